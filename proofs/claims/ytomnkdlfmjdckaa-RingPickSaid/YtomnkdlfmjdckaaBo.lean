/-
  The walks of the box of points.
-/
import Derived.Test.YtomnkdlfmjdckaaProg
import Derived.Test.YtomnkdlfmjdckaaAm16
import Derived.Test.YtomnkdlfmjdckaaSp6
import Derived.Test.YtomnkdlfmjdckaaPt1
namespace Go.Proofs.Ytomnkdlfmjdckaa.Am
open Go Go.Proofs
set_option maxRecDepth 100000
set_option maxHeartbeats 4000000
set_option linter.unusedVariables false
set_option linter.unusedSimpArgs false

theorem join_ok (ax ay az aw bx b_y bz bw : Int) :
    AC Try.prog 45 0 ([.agg #[.int .i64 ax, .int .i64 ay, .int .i64 az, .int .i64 aw], .agg #[.int .i64 bx, .int .i64 b_y, .int .i64 bz, .int .i64 bw]]) [] (.agg #[.int .i64 (Sp.mn ax bx), .int .i64 (Sp.mn ay b_y), .int .i64 (Sp.mx az bz), .int .i64 (Sp.mx aw bw)]) [] := by
  refine ac_in Try.func45 (fun w0 W pin => ?_)
  refine aw_p 3 (
    .a 3 1 <| .nil _ _) ?_
  refine aw_p 7 (
    .a 32 4 <| .nil _ _) ?_
  refine aw_w [(4, .pointer (some ⟨3, 0, none⟩))] [(3, ⟨[.int .i64 (Sp.mn ax bx), .int .i64 (Sp.mn ay b_y), .int .i64 (Sp.mx az bz), .int .i64 (Sp.mx aw bw)], 41, true, 4⟩)] ?_
  refine aw_rt ?_
  exact en_ret [.agg #[.int .i64 (Sp.mn ax bx), .int .i64 (Sp.mn ay b_y), .int .i64 (Sp.mx az bz), .int .i64 (Sp.mx aw bw)]] (by kernel_rfl)

theorem boxof_ro (ps : List (Int × Int)) (hz : ps.length ≤ 9223372036854775807) :
    AC Try.prog 17 1 ([.slice (some ⟨0, 0, none⟩) ps.length 0]) [(0, ⟨(ps.flatMap ptc), 27, false, 2⟩)] (.agg #[.int .i64 ((Sp.bxo ps ps.length).1), .int .i64 ((Sp.bxo ps ps.length).2.1), .int .i64 ((Sp.bxo ps ps.length).2.2.1), .int .i64 ((Sp.bxo ps ps.length).2.2.2)]) [] := by
  refine ac_in Try.func17 (fun w0 W pin => ?_)
  refine aw_p 3 (
    .a 1 1 <| .nil _ _) ?_
  refine aw_p 7 (
    .a 1 2 <| .nil _ _) ?_
  refine aw_sq 14 15 ?_
  refine aw_p 29 (
    .a 3 3 <| .nil _ _) ?_
  refine aw_bl 0 59 ?_
  refine aw_lp 119 ?_
  refine al_w [(2, .pointer (some ⟨1, 0, none⟩)), (3, .pointer (some ⟨2, 0, none⟩)), (6, .slice (some ⟨0, 0, none⟩) ps.length 0), (7, .int .i64 ((ps.length : Nat) : Int)), (8, .int .i64 ((0 : Nat) : Int))] [(0, ⟨(ps.flatMap ptc), 27, false, 2⟩), (1, ⟨[.int .i64 0, .int .i64 0, .int .i64 0, .int .i64 0], 41, true, 4⟩), (2, ⟨[.int .i64 0, .int .i64 0, .int .i64 0, .int .i64 0], 41, true, 4⟩)] ?_ (hc := (by simp [closedB, valsB, valB, List.all_eq_true, List.mem_flatMap, ptc, flat1]; try decide))
  refine al_ind (fun i : Nat × Int × Int × Int × Int => (fun (i : Nat) (a : Int) (b : Int) (c : Int) (d : Int) => mkSt 1 [(2, .pointer (some ⟨1, 0, none⟩)), (3, .pointer (some ⟨2, 0, none⟩)), (6, .slice (some ⟨0, 0, none⟩) ps.length 0), (7, .int .i64 ((ps.length : Nat) : Int)), (8, .int .i64 ((i : Nat) : Int))] [(0, ⟨(ps.flatMap ptc), 27, false, 2⟩), (1, ⟨[.int .i64 0, .int .i64 0, .int .i64 0, .int .i64 0], 41, true, 4⟩), (2, ⟨[.int .i64 a, .int .i64 b, .int .i64 c, .int .i64 d], 41, true, 4⟩)]) i.1 i.2.1 i.2.2.1 i.2.2.2.1 i.2.2.2.2) (fun i : Nat × Int × Int × Int × Int => (fun (i : Nat) (a : Int) (b : Int) (c : Int) (d : Int) => (i ≤ ps.length) ∧ (a = (Sp.bxo ps i).1) ∧ (b = (Sp.bxo ps i).2.1) ∧ (c = (Sp.bxo ps i).2.2.1) ∧ (d = (Sp.bxo ps i).2.2.2)) i.1 i.2.1 i.2.2.1 i.2.2.2.1 i.2.2.2.2) (fun i : Nat × Int × Int × Int × Int => (fun (i : Nat) (a : Int) (b : Int) (c : Int) (d : Int) => ps.length - i) i.1 i.2.1 i.2.2.1 i.2.2.2.1 i.2.2.2.2) (fun i hi1 ih1 => ?_) (0, 0, 0, 0, 0) (show (0 ≤ ps.length) ∧ (0 = (Sp.bxo ps 0).1) ∧ (0 = (Sp.bxo ps 0).2.1) ∧ (0 = (Sp.bxo ps 0).2.2.1) ∧ (0 = (Sp.bxo ps 0).2.2.2) from ⟨by omega, by rfl, by rfl, by rfl, by rfl⟩)
  obtain ⟨i, a, b, c, d⟩ := i
  have hi1' : (i ≤ ps.length) ∧ (a = (Sp.bxo ps i).1) ∧ (b = (Sp.bxo ps i).2.1) ∧ (c = (Sp.bxo ps i).2.2.1) ∧ (d = (Sp.bxo ps i).2.2.2) := hi1
  obtain ⟨hi, ha, hb, hc, hd⟩ := hi1'
  show AL _ _ _ (mkSt 1 [(2, .pointer (some ⟨1, 0, none⟩)), (3, .pointer (some ⟨2, 0, none⟩)), (6, .slice (some ⟨0, 0, none⟩) ps.length 0), (7, .int .i64 ((ps.length : Nat) : Int)), (8, .int .i64 ((i : Nat) : Int))] [(0, ⟨(ps.flatMap ptc), 27, false, 2⟩), (1, ⟨[.int .i64 0, .int .i64 0, .int .i64 0, .int .i64 0], 41, true, 4⟩), (2, ⟨[.int .i64 a, .int .i64 b, .int .i64 c, .int .i64 d], 41, true, 4⟩)]) _
  refine al_round ?_
  refine aw_p 239 (
    .a 1 3 <| .nil _ _) ?_
  refine aw_sq 478 479 ?_
  refine aw_cd 956 957 (decide (((i : Nat) : Int) < ((ps.length : Nat) : Int))) (fun h1 => ?_) (fun h1 => ?_)
  · have h1p : ((((i : Nat) : Int) < ((ps.length : Nat) : Int))) := by first | (simpa using h1) | (have h1q := h1; simp at h1q; omega) | (have h1q := bx1 h1; simp at h1q; omega)
    refine aw_sk ?_
    refine then_normal ?_
    refine aw_sq 958 959 ?_
    refine aw_bl 1 1917 ?_
    refine aw_p 3835 (
      .a 1 3 <| .p (does_indexSlice (t := 24) (x := .tmp 6) (y := .tmp 8) (k := 0) (off := 0) (n := ps.length) (c := 0) (z := 2) (kd := .i64) (j := ((i : Nat) : Int)) (by kernel_rfl) (by kernel_rfl) (by kernel_rfl) (by kernel_rfl) (by kernel_rfl) (by omega) (by omega)) <|
      .p (does_load (t := 27) (x := .tmp 11) (k := 0) (off := (0 + (((i : Nat) : Int)).toNat * 2)) (b := ⟨(ps.flatMap ptc), 27, false, 2⟩) (v := .agg #[.int .i64 ((ps.getD i (0, 0)).1), .int .i64 ((ps.getD i (0, 0)).2)]) (by kernel_rfl) (by kernel_rfl) (by kernel_rfl) (ldV_pair (j := i) (by kernel_rfl) (by kernel_rfl) (by omega) (by omega))) <|
      .a 3 3 <| .nil _ _) ?_
    refine aw_p 7671 (
      .a 1 4 <| .p (does_c (clamp_ok ((ps.getD i (0, 0)).1) ((ps.getD i (0, 0)).2))) <| .a 1 4 <| .nil _ _) ?_
    refine aw_sq 15342 15343 ?_
    refine aw_p 30685 (
      .a 2 4 <| .nil _ _) ?_
    refine aw_cd 61370 61371 (((i : Nat) : Int) == 0) (fun h2 => ?_) (fun h2 => ?_)
    · have h2p : ((((i : Nat) : Int) = 0)) := by first | (simpa using h2) | (have h2q := h2; simp at h2q; omega) | (have h2q := bx1 h2; simp at h2q; omega)
      refine aw_p1 (
        .a 4 4 <| .nil _ _) ?_
      refine then_normal ?_
      refine aw_p1 (
        .a 4 4 <|
        .p (does_c (join_ok (Sp.lim 1048576 ((ps.getD i (0, 0)).1)) (Sp.lim 1048576 ((ps.getD i (0, 0)).2)) (Sp.lim 1048576 ((ps.getD i (0, 0)).1)) (Sp.lim 1048576 ((ps.getD i (0, 0)).2)) (Sp.lim 1048576 ((ps.getD i (0, 0)).1)) (Sp.lim 1048576 ((ps.getD i (0, 0)).2)) (Sp.lim 1048576 ((ps.getD i (0, 0)).1)) (Sp.lim 1048576 ((ps.getD i (0, 0)).2)))) <|
        .a 1 4 <| .nil _ _) ?_
      refine block_normal ?_
      refine then_normal ?_
      refine aw_p1 (
        .p (does_i (((i : Nat) : Int) + 1) (wrap_i64 (by omega) (by omega)) .i64) <| .a 1 4 <| .nil _ _) ?_
      refine then_normal ?_
      refine al_w [(2, .pointer (some ⟨1, 0, none⟩)), (3, .pointer (some ⟨2, 0, none⟩)), (6, .slice (some ⟨0, 0, none⟩) ps.length 0), (7, .int .i64 ((ps.length : Nat) : Int)), (8, .int .i64 (((i + 1) : Nat) : Int))] [(0, ⟨(ps.flatMap ptc), 27, false, 2⟩), (1, ⟨[.int .i64 0, .int .i64 0, .int .i64 0, .int .i64 0], 41, true, 4⟩), (2, ⟨[.int .i64 (Sp.mn (Sp.lim 1048576 ((ps.getD i (0, 0)).1)) (Sp.lim 1048576 ((ps.getD i (0, 0)).1))), .int .i64 (Sp.mn (Sp.lim 1048576 ((ps.getD i (0, 0)).2)) (Sp.lim 1048576 ((ps.getD i (0, 0)).2))), .int .i64 (Sp.mx (Sp.lim 1048576 ((ps.getD i (0, 0)).1)) (Sp.lim 1048576 ((ps.getD i (0, 0)).1))), .int .i64 (Sp.mx (Sp.lim 1048576 ((ps.getD i (0, 0)).2)) (Sp.lim 1048576 ((ps.getD i (0, 0)).2)))], 41, true, 4⟩)] ?_ (hc := (by simp [closedB, valsB, valB, List.all_eq_true, List.mem_flatMap, ptc, flat1]; try decide))
      exact ih1 ((i + 1), (Sp.mn (Sp.lim 1048576 ((ps.getD i (0, 0)).1)) (Sp.lim 1048576 ((ps.getD i (0, 0)).1))), (Sp.mn (Sp.lim 1048576 ((ps.getD i (0, 0)).2)) (Sp.lim 1048576 ((ps.getD i (0, 0)).2))), (Sp.mx (Sp.lim 1048576 ((ps.getD i (0, 0)).1)) (Sp.lim 1048576 ((ps.getD i (0, 0)).1))), (Sp.mx (Sp.lim 1048576 ((ps.getD i (0, 0)).2)) (Sp.lim 1048576 ((ps.getD i (0, 0)).2)))) (show ((i + 1) ≤ ps.length) ∧ ((Sp.mn (Sp.lim 1048576 ((ps.getD i (0, 0)).1)) (Sp.lim 1048576 ((ps.getD i (0, 0)).1))) = (Sp.bxo ps (i + 1)).1) ∧ ((Sp.mn (Sp.lim 1048576 ((ps.getD i (0, 0)).2)) (Sp.lim 1048576 ((ps.getD i (0, 0)).2))) = (Sp.bxo ps (i + 1)).2.1) ∧ ((Sp.mx (Sp.lim 1048576 ((ps.getD i (0, 0)).1)) (Sp.lim 1048576 ((ps.getD i (0, 0)).1))) = (Sp.bxo ps (i + 1)).2.2.1) ∧ ((Sp.mx (Sp.lim 1048576 ((ps.getD i (0, 0)).2)) (Sp.lim 1048576 ((ps.getD i (0, 0)).2))) = (Sp.bxo ps (i + 1)).2.2.2) from ⟨by omega, by (first | (rw [Sp.bxo_first (by omega)]) | (rw [Sp.bxo_next (by omega), ← ha, ← hb, ← hc, ← hd])), by (first | (rw [Sp.bxo_first (by omega)]) | (rw [Sp.bxo_next (by omega), ← ha, ← hb, ← hc, ← hd])), by (first | (rw [Sp.bxo_first (by omega)]) | (rw [Sp.bxo_next (by omega), ← ha, ← hb, ← hc, ← hd])), by (first | (rw [Sp.bxo_first (by omega)]) | (rw [Sp.bxo_next (by omega), ← ha, ← hb, ← hc, ← hd]))⟩) (show ps.length - (i + 1) < ps.length - i from by omega)
    · have h2p : ¬ ((((i : Nat) : Int) = 0)) := by first | (simpa using h2) | (have h2q := h2; simp at h2q; omega) | (have h2q := bx2 h2; simp at h2q; omega)
      refine aw_sk ?_
      refine then_normal ?_
      refine aw_p1 (
        .a 4 4 <| .p (does_c (join_ok a b c d (Sp.lim 1048576 ((ps.getD i (0, 0)).1)) (Sp.lim 1048576 ((ps.getD i (0, 0)).2)) (Sp.lim 1048576 ((ps.getD i (0, 0)).1)) (Sp.lim 1048576 ((ps.getD i (0, 0)).2)))) <| .a 1 4 <| .nil _ _) ?_
      refine block_normal ?_
      refine then_normal ?_
      refine aw_p1 (
        .p (does_i (((i : Nat) : Int) + 1) (wrap_i64 (by omega) (by omega)) .i64) <| .a 1 4 <| .nil _ _) ?_
      refine then_normal ?_
      refine al_w [(2, .pointer (some ⟨1, 0, none⟩)), (3, .pointer (some ⟨2, 0, none⟩)), (6, .slice (some ⟨0, 0, none⟩) ps.length 0), (7, .int .i64 ((ps.length : Nat) : Int)), (8, .int .i64 (((i + 1) : Nat) : Int))] [(0, ⟨(ps.flatMap ptc), 27, false, 2⟩), (1, ⟨[.int .i64 0, .int .i64 0, .int .i64 0, .int .i64 0], 41, true, 4⟩), (2, ⟨[.int .i64 (Sp.mn a (Sp.lim 1048576 ((ps.getD i (0, 0)).1))), .int .i64 (Sp.mn b (Sp.lim 1048576 ((ps.getD i (0, 0)).2))), .int .i64 (Sp.mx c (Sp.lim 1048576 ((ps.getD i (0, 0)).1))), .int .i64 (Sp.mx d (Sp.lim 1048576 ((ps.getD i (0, 0)).2)))], 41, true, 4⟩)] ?_ (hc := (by simp [closedB, valsB, valB, List.all_eq_true, List.mem_flatMap, ptc, flat1]; try decide))
      exact ih1 ((i + 1), (Sp.mn a (Sp.lim 1048576 ((ps.getD i (0, 0)).1))), (Sp.mn b (Sp.lim 1048576 ((ps.getD i (0, 0)).2))), (Sp.mx c (Sp.lim 1048576 ((ps.getD i (0, 0)).1))), (Sp.mx d (Sp.lim 1048576 ((ps.getD i (0, 0)).2)))) (show ((i + 1) ≤ ps.length) ∧ ((Sp.mn a (Sp.lim 1048576 ((ps.getD i (0, 0)).1))) = (Sp.bxo ps (i + 1)).1) ∧ ((Sp.mn b (Sp.lim 1048576 ((ps.getD i (0, 0)).2))) = (Sp.bxo ps (i + 1)).2.1) ∧ ((Sp.mx c (Sp.lim 1048576 ((ps.getD i (0, 0)).1))) = (Sp.bxo ps (i + 1)).2.2.1) ∧ ((Sp.mx d (Sp.lim 1048576 ((ps.getD i (0, 0)).2))) = (Sp.bxo ps (i + 1)).2.2.2) from ⟨by omega, by (first | (rw [Sp.bxo_first (by omega)]) | (rw [Sp.bxo_next (by omega), ← ha, ← hb, ← hc, ← hd])), by (first | (rw [Sp.bxo_first (by omega)]) | (rw [Sp.bxo_next (by omega), ← ha, ← hb, ← hc, ← hd])), by (first | (rw [Sp.bxo_first (by omega)]) | (rw [Sp.bxo_next (by omega), ← ha, ← hb, ← hc, ← hd])), by (first | (rw [Sp.bxo_first (by omega)]) | (rw [Sp.bxo_next (by omega), ← ha, ← hb, ← hc, ← hd]))⟩) (show ps.length - (i + 1) < ps.length - i from by omega)
  · have h1p : ¬ ((((i : Nat) : Int) < ((ps.length : Nat) : Int))) := by first | (simpa using h1) | (have h1q := h1; simp at h1q; omega) | (have h1q := bx2 h1; simp at h1q; omega)
    have hl : i = ps.length := by omega
    have ha' : a = (Sp.bxo ps ps.length).1 := by rw [ha, hl]
    have hb' : b = (Sp.bxo ps ps.length).2.1 := by rw [hb, hl]
    have hc' : c = (Sp.bxo ps ps.length).2.2.1 := by rw [hc, hl]
    have hd' : d = (Sp.bxo ps ps.length).2.2.2 := by rw [hd, hl]
    refine aw_ex 0 ?_
    refine then_exit ?_
    refine then_exit ?_
    refine block_exit ?_
    refine then_normal ?_
    refine aw_p 31 (
      .a 2 3 <| .nil _ _) ?_
    refine aw_rt ?_
    exact en_ret [.agg #[.int .i64 a, .int .i64 b, .int .i64 c, .int .i64 d]] (show (.agg #[.int .i64 a, .int .i64 b, .int .i64 c, .int .i64 d] : Value) = (.agg #[.int .i64 ((Sp.bxo ps ps.length).1), .int .i64 ((Sp.bxo ps ps.length).2.1), .int .i64 ((Sp.bxo ps ps.length).2.2.1), .int .i64 ((Sp.bxo ps ps.length).2.2.2)]) from (congrArg (fun z : List Value => Value.agg z.toArray) (lcons (congrArg (Value.int .i64) (show a = ((Sp.bxo ps ps.length).1) from by (first | exact ha' | exact hb' | exact hc' | exact hd'))) (lcons (congrArg (Value.int .i64) (show b = ((Sp.bxo ps ps.length).2.1) from by (first | exact ha' | exact hb' | exact hc' | exact hd'))) (lcons (congrArg (Value.int .i64) (show c = ((Sp.bxo ps ps.length).2.2.1) from by (first | exact ha' | exact hb' | exact hc' | exact hd'))) (lcons (congrArg (Value.int .i64) (show d = ((Sp.bxo ps ps.length).2.2.2) from by (first | exact ha' | exact hb' | exact hc' | exact hd'))) rfl))))))

theorem boxof_own (ps : List (Int × Int)) (hz : ps.length ≤ 9223372036854775807) :
    AC Try.prog 17 1 ([.slice (some ⟨0, 0, none⟩) ps.length 0]) [(0, ⟨(ps.flatMap ptc), 27, true, 2⟩)] (.agg #[.int .i64 ((Sp.bxo ps ps.length).1), .int .i64 ((Sp.bxo ps ps.length).2.1), .int .i64 ((Sp.bxo ps ps.length).2.2.1), .int .i64 ((Sp.bxo ps ps.length).2.2.2)]) [(0, ⟨(ps.flatMap ptc), 27, true, 2⟩)] := by
  refine ac_in Try.func17 (fun w0 W pin => ?_)
  refine aw_p 3 (
    .a 1 1 <| .nil _ _) ?_
  refine aw_p 7 (
    .a 1 2 <| .nil _ _) ?_
  refine aw_sq 14 15 ?_
  refine aw_p 29 (
    .a 3 3 <| .nil _ _) ?_
  refine aw_bl 0 59 ?_
  refine aw_lp 119 ?_
  refine al_w [(2, .pointer (some ⟨1, 0, none⟩)), (3, .pointer (some ⟨2, 0, none⟩)), (6, .slice (some ⟨0, 0, none⟩) ps.length 0), (7, .int .i64 ((ps.length : Nat) : Int)), (8, .int .i64 ((0 : Nat) : Int))] [(0, ⟨(ps.flatMap ptc), 27, true, 2⟩), (1, ⟨[.int .i64 0, .int .i64 0, .int .i64 0, .int .i64 0], 41, true, 4⟩), (2, ⟨[.int .i64 0, .int .i64 0, .int .i64 0, .int .i64 0], 41, true, 4⟩)] ?_ (hc := (by simp [closedB, valsB, valB, List.all_eq_true, List.mem_flatMap, ptc, flat1]; try decide))
  refine al_ind (fun i : Nat × Int × Int × Int × Int => (fun (i : Nat) (a : Int) (b : Int) (c : Int) (d : Int) => mkSt 1 [(2, .pointer (some ⟨1, 0, none⟩)), (3, .pointer (some ⟨2, 0, none⟩)), (6, .slice (some ⟨0, 0, none⟩) ps.length 0), (7, .int .i64 ((ps.length : Nat) : Int)), (8, .int .i64 ((i : Nat) : Int))] [(0, ⟨(ps.flatMap ptc), 27, true, 2⟩), (1, ⟨[.int .i64 0, .int .i64 0, .int .i64 0, .int .i64 0], 41, true, 4⟩), (2, ⟨[.int .i64 a, .int .i64 b, .int .i64 c, .int .i64 d], 41, true, 4⟩)]) i.1 i.2.1 i.2.2.1 i.2.2.2.1 i.2.2.2.2) (fun i : Nat × Int × Int × Int × Int => (fun (i : Nat) (a : Int) (b : Int) (c : Int) (d : Int) => (i ≤ ps.length) ∧ (a = (Sp.bxo ps i).1) ∧ (b = (Sp.bxo ps i).2.1) ∧ (c = (Sp.bxo ps i).2.2.1) ∧ (d = (Sp.bxo ps i).2.2.2)) i.1 i.2.1 i.2.2.1 i.2.2.2.1 i.2.2.2.2) (fun i : Nat × Int × Int × Int × Int => (fun (i : Nat) (a : Int) (b : Int) (c : Int) (d : Int) => ps.length - i) i.1 i.2.1 i.2.2.1 i.2.2.2.1 i.2.2.2.2) (fun i hi1 ih1 => ?_) (0, 0, 0, 0, 0) (show (0 ≤ ps.length) ∧ (0 = (Sp.bxo ps 0).1) ∧ (0 = (Sp.bxo ps 0).2.1) ∧ (0 = (Sp.bxo ps 0).2.2.1) ∧ (0 = (Sp.bxo ps 0).2.2.2) from ⟨by omega, by rfl, by rfl, by rfl, by rfl⟩)
  obtain ⟨i, a, b, c, d⟩ := i
  have hi1' : (i ≤ ps.length) ∧ (a = (Sp.bxo ps i).1) ∧ (b = (Sp.bxo ps i).2.1) ∧ (c = (Sp.bxo ps i).2.2.1) ∧ (d = (Sp.bxo ps i).2.2.2) := hi1
  obtain ⟨hi, ha, hb, hc, hd⟩ := hi1'
  show AL _ _ _ (mkSt 1 [(2, .pointer (some ⟨1, 0, none⟩)), (3, .pointer (some ⟨2, 0, none⟩)), (6, .slice (some ⟨0, 0, none⟩) ps.length 0), (7, .int .i64 ((ps.length : Nat) : Int)), (8, .int .i64 ((i : Nat) : Int))] [(0, ⟨(ps.flatMap ptc), 27, true, 2⟩), (1, ⟨[.int .i64 0, .int .i64 0, .int .i64 0, .int .i64 0], 41, true, 4⟩), (2, ⟨[.int .i64 a, .int .i64 b, .int .i64 c, .int .i64 d], 41, true, 4⟩)]) _
  refine al_round ?_
  refine aw_p 239 (
    .a 1 3 <| .nil _ _) ?_
  refine aw_sq 478 479 ?_
  refine aw_cd 956 957 (decide (((i : Nat) : Int) < ((ps.length : Nat) : Int))) (fun h1 => ?_) (fun h1 => ?_)
  · have h1p : ((((i : Nat) : Int) < ((ps.length : Nat) : Int))) := by first | (simpa using h1) | (have h1q := h1; simp at h1q; omega) | (have h1q := bx1 h1; simp at h1q; omega)
    refine aw_sk ?_
    refine then_normal ?_
    refine aw_sq 958 959 ?_
    refine aw_bl 1 1917 ?_
    refine aw_p 3835 (
      .a 1 3 <| .p (does_indexSlice (t := 24) (x := .tmp 6) (y := .tmp 8) (k := 0) (off := 0) (n := ps.length) (c := 0) (z := 2) (kd := .i64) (j := ((i : Nat) : Int)) (by kernel_rfl) (by kernel_rfl) (by kernel_rfl) (by kernel_rfl) (by kernel_rfl) (by omega) (by omega)) <|
      .p (does_load (t := 27) (x := .tmp 11) (k := 0) (off := (0 + (((i : Nat) : Int)).toNat * 2)) (b := ⟨(ps.flatMap ptc), 27, true, 2⟩) (v := .agg #[.int .i64 ((ps.getD i (0, 0)).1), .int .i64 ((ps.getD i (0, 0)).2)]) (by kernel_rfl) (by kernel_rfl) (by kernel_rfl) (ldV_pair (j := i) (by kernel_rfl) (by kernel_rfl) (by omega) (by omega))) <|
      .a 3 3 <| .nil _ _) ?_
    refine aw_p 7671 (
      .a 1 4 <| .p (does_c (clamp_ok ((ps.getD i (0, 0)).1) ((ps.getD i (0, 0)).2))) <| .a 1 4 <| .nil _ _) ?_
    refine aw_sq 15342 15343 ?_
    refine aw_p 30685 (
      .a 2 4 <| .nil _ _) ?_
    refine aw_cd 61370 61371 (((i : Nat) : Int) == 0) (fun h2 => ?_) (fun h2 => ?_)
    · have h2p : ((((i : Nat) : Int) = 0)) := by first | (simpa using h2) | (have h2q := h2; simp at h2q; omega) | (have h2q := bx1 h2; simp at h2q; omega)
      refine aw_p1 (
        .a 4 4 <| .nil _ _) ?_
      refine then_normal ?_
      refine aw_p1 (
        .a 4 4 <|
        .p (does_c (join_ok (Sp.lim 1048576 ((ps.getD i (0, 0)).1)) (Sp.lim 1048576 ((ps.getD i (0, 0)).2)) (Sp.lim 1048576 ((ps.getD i (0, 0)).1)) (Sp.lim 1048576 ((ps.getD i (0, 0)).2)) (Sp.lim 1048576 ((ps.getD i (0, 0)).1)) (Sp.lim 1048576 ((ps.getD i (0, 0)).2)) (Sp.lim 1048576 ((ps.getD i (0, 0)).1)) (Sp.lim 1048576 ((ps.getD i (0, 0)).2)))) <|
        .a 1 4 <| .nil _ _) ?_
      refine block_normal ?_
      refine then_normal ?_
      refine aw_p1 (
        .p (does_i (((i : Nat) : Int) + 1) (wrap_i64 (by omega) (by omega)) .i64) <| .a 1 4 <| .nil _ _) ?_
      refine then_normal ?_
      refine al_w [(2, .pointer (some ⟨1, 0, none⟩)), (3, .pointer (some ⟨2, 0, none⟩)), (6, .slice (some ⟨0, 0, none⟩) ps.length 0), (7, .int .i64 ((ps.length : Nat) : Int)), (8, .int .i64 (((i + 1) : Nat) : Int))] [(0, ⟨(ps.flatMap ptc), 27, true, 2⟩), (1, ⟨[.int .i64 0, .int .i64 0, .int .i64 0, .int .i64 0], 41, true, 4⟩), (2, ⟨[.int .i64 (Sp.mn (Sp.lim 1048576 ((ps.getD i (0, 0)).1)) (Sp.lim 1048576 ((ps.getD i (0, 0)).1))), .int .i64 (Sp.mn (Sp.lim 1048576 ((ps.getD i (0, 0)).2)) (Sp.lim 1048576 ((ps.getD i (0, 0)).2))), .int .i64 (Sp.mx (Sp.lim 1048576 ((ps.getD i (0, 0)).1)) (Sp.lim 1048576 ((ps.getD i (0, 0)).1))), .int .i64 (Sp.mx (Sp.lim 1048576 ((ps.getD i (0, 0)).2)) (Sp.lim 1048576 ((ps.getD i (0, 0)).2)))], 41, true, 4⟩)] ?_ (hc := (by simp [closedB, valsB, valB, List.all_eq_true, List.mem_flatMap, ptc, flat1]; try decide))
      exact ih1 ((i + 1), (Sp.mn (Sp.lim 1048576 ((ps.getD i (0, 0)).1)) (Sp.lim 1048576 ((ps.getD i (0, 0)).1))), (Sp.mn (Sp.lim 1048576 ((ps.getD i (0, 0)).2)) (Sp.lim 1048576 ((ps.getD i (0, 0)).2))), (Sp.mx (Sp.lim 1048576 ((ps.getD i (0, 0)).1)) (Sp.lim 1048576 ((ps.getD i (0, 0)).1))), (Sp.mx (Sp.lim 1048576 ((ps.getD i (0, 0)).2)) (Sp.lim 1048576 ((ps.getD i (0, 0)).2)))) (show ((i + 1) ≤ ps.length) ∧ ((Sp.mn (Sp.lim 1048576 ((ps.getD i (0, 0)).1)) (Sp.lim 1048576 ((ps.getD i (0, 0)).1))) = (Sp.bxo ps (i + 1)).1) ∧ ((Sp.mn (Sp.lim 1048576 ((ps.getD i (0, 0)).2)) (Sp.lim 1048576 ((ps.getD i (0, 0)).2))) = (Sp.bxo ps (i + 1)).2.1) ∧ ((Sp.mx (Sp.lim 1048576 ((ps.getD i (0, 0)).1)) (Sp.lim 1048576 ((ps.getD i (0, 0)).1))) = (Sp.bxo ps (i + 1)).2.2.1) ∧ ((Sp.mx (Sp.lim 1048576 ((ps.getD i (0, 0)).2)) (Sp.lim 1048576 ((ps.getD i (0, 0)).2))) = (Sp.bxo ps (i + 1)).2.2.2) from ⟨by omega, by (first | (rw [Sp.bxo_first (by omega)]) | (rw [Sp.bxo_next (by omega), ← ha, ← hb, ← hc, ← hd])), by (first | (rw [Sp.bxo_first (by omega)]) | (rw [Sp.bxo_next (by omega), ← ha, ← hb, ← hc, ← hd])), by (first | (rw [Sp.bxo_first (by omega)]) | (rw [Sp.bxo_next (by omega), ← ha, ← hb, ← hc, ← hd])), by (first | (rw [Sp.bxo_first (by omega)]) | (rw [Sp.bxo_next (by omega), ← ha, ← hb, ← hc, ← hd]))⟩) (show ps.length - (i + 1) < ps.length - i from by omega)
    · have h2p : ¬ ((((i : Nat) : Int) = 0)) := by first | (simpa using h2) | (have h2q := h2; simp at h2q; omega) | (have h2q := bx2 h2; simp at h2q; omega)
      refine aw_sk ?_
      refine then_normal ?_
      refine aw_p1 (
        .a 4 4 <| .p (does_c (join_ok a b c d (Sp.lim 1048576 ((ps.getD i (0, 0)).1)) (Sp.lim 1048576 ((ps.getD i (0, 0)).2)) (Sp.lim 1048576 ((ps.getD i (0, 0)).1)) (Sp.lim 1048576 ((ps.getD i (0, 0)).2)))) <| .a 1 4 <| .nil _ _) ?_
      refine block_normal ?_
      refine then_normal ?_
      refine aw_p1 (
        .p (does_i (((i : Nat) : Int) + 1) (wrap_i64 (by omega) (by omega)) .i64) <| .a 1 4 <| .nil _ _) ?_
      refine then_normal ?_
      refine al_w [(2, .pointer (some ⟨1, 0, none⟩)), (3, .pointer (some ⟨2, 0, none⟩)), (6, .slice (some ⟨0, 0, none⟩) ps.length 0), (7, .int .i64 ((ps.length : Nat) : Int)), (8, .int .i64 (((i + 1) : Nat) : Int))] [(0, ⟨(ps.flatMap ptc), 27, true, 2⟩), (1, ⟨[.int .i64 0, .int .i64 0, .int .i64 0, .int .i64 0], 41, true, 4⟩), (2, ⟨[.int .i64 (Sp.mn a (Sp.lim 1048576 ((ps.getD i (0, 0)).1))), .int .i64 (Sp.mn b (Sp.lim 1048576 ((ps.getD i (0, 0)).2))), .int .i64 (Sp.mx c (Sp.lim 1048576 ((ps.getD i (0, 0)).1))), .int .i64 (Sp.mx d (Sp.lim 1048576 ((ps.getD i (0, 0)).2)))], 41, true, 4⟩)] ?_ (hc := (by simp [closedB, valsB, valB, List.all_eq_true, List.mem_flatMap, ptc, flat1]; try decide))
      exact ih1 ((i + 1), (Sp.mn a (Sp.lim 1048576 ((ps.getD i (0, 0)).1))), (Sp.mn b (Sp.lim 1048576 ((ps.getD i (0, 0)).2))), (Sp.mx c (Sp.lim 1048576 ((ps.getD i (0, 0)).1))), (Sp.mx d (Sp.lim 1048576 ((ps.getD i (0, 0)).2)))) (show ((i + 1) ≤ ps.length) ∧ ((Sp.mn a (Sp.lim 1048576 ((ps.getD i (0, 0)).1))) = (Sp.bxo ps (i + 1)).1) ∧ ((Sp.mn b (Sp.lim 1048576 ((ps.getD i (0, 0)).2))) = (Sp.bxo ps (i + 1)).2.1) ∧ ((Sp.mx c (Sp.lim 1048576 ((ps.getD i (0, 0)).1))) = (Sp.bxo ps (i + 1)).2.2.1) ∧ ((Sp.mx d (Sp.lim 1048576 ((ps.getD i (0, 0)).2))) = (Sp.bxo ps (i + 1)).2.2.2) from ⟨by omega, by (first | (rw [Sp.bxo_first (by omega)]) | (rw [Sp.bxo_next (by omega), ← ha, ← hb, ← hc, ← hd])), by (first | (rw [Sp.bxo_first (by omega)]) | (rw [Sp.bxo_next (by omega), ← ha, ← hb, ← hc, ← hd])), by (first | (rw [Sp.bxo_first (by omega)]) | (rw [Sp.bxo_next (by omega), ← ha, ← hb, ← hc, ← hd])), by (first | (rw [Sp.bxo_first (by omega)]) | (rw [Sp.bxo_next (by omega), ← ha, ← hb, ← hc, ← hd]))⟩) (show ps.length - (i + 1) < ps.length - i from by omega)
  · have h1p : ¬ ((((i : Nat) : Int) < ((ps.length : Nat) : Int))) := by first | (simpa using h1) | (have h1q := h1; simp at h1q; omega) | (have h1q := bx2 h1; simp at h1q; omega)
    have hl : i = ps.length := by omega
    have ha' : a = (Sp.bxo ps ps.length).1 := by rw [ha, hl]
    have hb' : b = (Sp.bxo ps ps.length).2.1 := by rw [hb, hl]
    have hc' : c = (Sp.bxo ps ps.length).2.2.1 := by rw [hc, hl]
    have hd' : d = (Sp.bxo ps ps.length).2.2.2 := by rw [hd, hl]
    refine aw_ex 0 ?_
    refine then_exit ?_
    refine then_exit ?_
    refine block_exit ?_
    refine then_normal ?_
    refine aw_p 31 (
      .a 2 3 <| .nil _ _) ?_
    refine aw_rt ?_
    exact en_ret [.agg #[.int .i64 a, .int .i64 b, .int .i64 c, .int .i64 d]] (show (.agg #[.int .i64 a, .int .i64 b, .int .i64 c, .int .i64 d] : Value) = (.agg #[.int .i64 ((Sp.bxo ps ps.length).1), .int .i64 ((Sp.bxo ps ps.length).2.1), .int .i64 ((Sp.bxo ps ps.length).2.2.1), .int .i64 ((Sp.bxo ps ps.length).2.2.2)]) from (congrArg (fun z : List Value => Value.agg z.toArray) (lcons (congrArg (Value.int .i64) (show a = ((Sp.bxo ps ps.length).1) from by (first | exact ha' | exact hb' | exact hc' | exact hd'))) (lcons (congrArg (Value.int .i64) (show b = ((Sp.bxo ps ps.length).2.1) from by (first | exact ha' | exact hb' | exact hc' | exact hd'))) (lcons (congrArg (Value.int .i64) (show c = ((Sp.bxo ps ps.length).2.2.1) from by (first | exact ha' | exact hb' | exact hc' | exact hd'))) (lcons (congrArg (Value.int .i64) (show d = ((Sp.bxo ps ps.length).2.2.2) from by (first | exact ha' | exact hb' | exact hc' | exact hd'))) rfl))))))


end Go.Proofs.Ytomnkdlfmjdckaa.Am
