/-
  The walks of boxes.
-/
import Derived.Test.YtndkhgfecnbmnaaProg
import Derived.Test.YtndkhgfecnbmnaaAm16
import Derived.Test.YtndkhgfecnbmnaaSp6
import Derived.Test.YtndkhgfecnbmnaaPt2
namespace Go.Proofs.Ytndkhgfecnbmnaa.Am
open Go Go.Proofs
set_option maxRecDepth 100000
set_option maxHeartbeats 4000000
set_option linter.unusedVariables false
set_option linter.unusedSimpArgs false

theorem has_ok (ax ay az aw px py : Int) :
    AC Try.prog 15 0 ([.agg #[.int .i64 ax, .int .i64 ay, .int .i64 az, .int .i64 aw], .agg #[.int .i64 px, .int .i64 py]]) [] (.bool (Sp.inbox ax ay az aw px py)) [] := by
  refine ac_in Try.func15 (fun w0 W pin => ?_)
  refine aw_p 3 (
    .a 3 1 <| .nil _ _) ?_
  rcases Bool.eq_false_or_eq_true (decide (ax ≤ px)) with h1 | h1
  · have h1p : ((ax ≤ px)) := by first | (simpa using h1) | (have h1q := h1; simp at h1q; omega) | (have h1q := bx1 h1; simp at h1q; omega)
    rcases Bool.eq_false_or_eq_true (decide (px ≤ az)) with h2 | h2
    · have h2p : ((px ≤ az)) := by first | (simpa using h2) | (have h2q := h2; simp at h2q; omega) | (have h2q := bx1 h2; simp at h2q; omega)
      rcases Bool.eq_false_or_eq_true (decide (ay ≤ py)) with h3 | h3
      · have h3p : ((ay ≤ py)) := by first | (simpa using h3) | (have h3q := h3; simp at h3q; omega) | (have h3q := bx1 h3; simp at h3q; omega)
        refine aw_p 7 (
          .a 5 3 <| .p (does_b true (h1)) <| .a 6 3 <| .p (does_b true (h2)) <| .a 7 3 <| .p (does_b true (h3)) <| .a 10 3 <| .nil _ _) ?_
        refine aw_rt ?_
        exact en_ret [.bool (decide (py ≤ aw))] (show (.bool (decide (py ≤ aw)) : Value) = (.bool (Sp.inbox ax ay az aw px py)) from (congrArg Value.bool (show (decide (py ≤ aw)) = (Sp.inbox ax ay az aw px py) from by (simp [Sp.inbox, *]))))
      · have h3p : ¬ ((ay ≤ py)) := by first | (simpa using h3) | (have h3q := h3; simp at h3q; omega) | (have h3q := bx2 h3; simp at h3q; omega)
        refine aw_p 7 (
          .a 5 3 <| .p (does_b true (h1)) <| .a 6 3 <| .p (does_b true (h2)) <| .a 7 3 <| .p (does_b false (h3)) <| .a 10 3 <| .nil _ _) ?_
        refine aw_rt ?_
        exact en_ret [.bool false] (show (.bool false : Value) = (.bool (Sp.inbox ax ay az aw px py)) from (congrArg Value.bool (show false = (Sp.inbox ax ay az aw px py) from by (simp [Sp.inbox, *]))))
    · have h2p : ¬ ((px ≤ az)) := by first | (simpa using h2) | (have h2q := h2; simp at h2q; omega) | (have h2q := bx2 h2; simp at h2q; omega)
      refine aw_p 7 (
        .a 5 3 <| .p (does_b true (h1)) <| .a 6 3 <| .p (does_b false (h2)) <| .a 18 3 <| .nil _ _) ?_
      refine aw_rt ?_
      exact en_ret [.bool false] (show (.bool false : Value) = (.bool (Sp.inbox ax ay az aw px py)) from (congrArg Value.bool (show false = (Sp.inbox ax ay az aw px py) from by (simp [Sp.inbox, *]))))
  · have h1p : ¬ ((ax ≤ px)) := by first | (simpa using h1) | (have h1q := h1; simp at h1q; omega) | (have h1q := bx2 h1; simp at h1q; omega)
    refine aw_p 7 (
      .a 5 3 <| .p (does_b false (h1)) <| .a 25 3 <| .nil _ _) ?_
    refine aw_rt ?_
    exact en_ret [.bool false] (show (.bool false : Value) = (.bool (Sp.inbox ax ay az aw px py)) from (congrArg Value.bool (show false = (Sp.inbox ax ay az aw px py) from by (simp [Sp.inbox, *]))))

theorem bok_ok (ax ay az aw : Int) :
    AC Try.prog 47 0 ([.agg #[.int .i64 ax, .int .i64 ay, .int .i64 az, .int .i64 aw]]) [] (.bool (Sp.bok ax ay az aw)) [] := by
  refine ac_in Try.func47 (fun w0 W pin => ?_)
  refine aw_p 3 (
    .a 2 1 <| .nil _ _) ?_
  rcases Bool.eq_false_or_eq_true (((ax == (Sp.lim 1048576 ax)) && ((ay == (Sp.lim 1048576 ay)) && true))) with h1 | h1
  · rcases Bool.eq_false_or_eq_true (((az == (Sp.lim 1048576 az)) && ((aw == (Sp.lim 1048576 aw)) && true))) with h2 | h2
    · rcases Bool.eq_false_or_eq_true (decide (ax ≤ az)) with h3 | h3
      · have h3p : ((ax ≤ az)) := by first | (simpa using h3) | (have h3q := h3; simp at h3q; omega) | (have h3q := bx1 h3; simp at h3q; omega)
        refine aw_p 7 (
          .a 2 2 <| .p (does_cb _ (pok_ok ax ay) true (h1)) <| .a 3 2 <| .p (does_cb _ (pok_ok az aw) true (h2)) <| .a 8 2 <| .p (does_b true (h3)) <| .a 11 2 <| .nil _ _) ?_
        refine aw_rt ?_
        exact en_ret [.bool (decide (ay ≤ aw))] (show (.bool (decide (ay ≤ aw)) : Value) = (.bool (Sp.bok ax ay az aw)) from (congrArg Value.bool (show (decide (ay ≤ aw)) = (Sp.bok ax ay az aw) from by (simp only [Sp.bok, Sp.okb, *, Bool.true_and, Bool.false_and, decide_true, decide_false]))))
      · have h3p : ¬ ((ax ≤ az)) := by first | (simpa using h3) | (have h3q := h3; simp at h3q; omega) | (have h3q := bx2 h3; simp at h3q; omega)
        refine aw_p 7 (
          .a 2 2 <| .p (does_cb _ (pok_ok ax ay) true (h1)) <| .a 3 2 <| .p (does_cb _ (pok_ok az aw) true (h2)) <| .a 8 2 <| .p (does_b false (h3)) <| .a 11 2 <| .nil _ _) ?_
        refine aw_rt ?_
        exact en_ret [.bool false] (show (.bool false : Value) = (.bool (Sp.bok ax ay az aw)) from (congrArg Value.bool (show false = (Sp.bok ax ay az aw) from by (simp only [Sp.bok, Sp.okb, *, Bool.true_and, Bool.false_and, decide_true, decide_false]))))
    · refine aw_p 7 (
        .a 2 2 <| .p (does_cb _ (pok_ok ax ay) true (h1)) <| .a 3 2 <| .p (does_cb _ (pok_ok az aw) false (h2)) <| .a 20 2 <| .nil _ _) ?_
      refine aw_rt ?_
      exact en_ret [.bool false] (show (.bool false : Value) = (.bool (Sp.bok ax ay az aw)) from (congrArg Value.bool (show false = (Sp.bok ax ay az aw) from by (simp only [Sp.bok, Sp.okb, *, Bool.true_and, Bool.false_and, decide_true, decide_false]))))
  · refine aw_p 7 (
      .a 2 2 <| .p (does_cb _ (pok_ok ax ay) false (h1)) <| .a 24 2 <| .nil _ _) ?_
    refine aw_rt ?_
    exact en_ret [.bool false] (show (.bool false : Value) = (.bool (Sp.bok ax ay az aw)) from (congrArg Value.bool (show false = (Sp.bok ax ay az aw) from by (simp only [Sp.bok, Sp.okb, *, Bool.true_and, Bool.false_and, decide_true, decide_false]))))

theorem join_ok (ax ay az aw bx b_y bz bw : Int) :
    AC Try.prog 90 0 ([.agg #[.int .i64 ax, .int .i64 ay, .int .i64 az, .int .i64 aw], .agg #[.int .i64 bx, .int .i64 b_y, .int .i64 bz, .int .i64 bw]]) [] (.agg #[.int .i64 (Sp.mn ax bx), .int .i64 (Sp.mn ay b_y), .int .i64 (Sp.mx az bz), .int .i64 (Sp.mx aw bw)]) [] := by
  refine ac_in Try.func90 (fun w0 W pin => ?_)
  refine aw_p 3 (
    .a 3 1 <| .nil _ _) ?_
  refine aw_p 7 (
    .a 32 4 <| .nil _ _) ?_
  refine aw_w [(0, .agg #[.int .i64 ax, .int .i64 ay, .int .i64 az, .int .i64 aw]), (1, .agg #[.int .i64 bx, .int .i64 b_y, .int .i64 bz, .int .i64 bw]), (4, .pointer (some ⟨3, 0, none⟩))] [(3, ⟨[.int .i64 (Sp.mn ax bx), .int .i64 (Sp.mn ay b_y), .int .i64 (Sp.mx az bz), .int .i64 (Sp.mx aw bw)], 37, true, 4⟩)] ?_
  refine aw_rt ?_
  exact en_ret [.agg #[.int .i64 (Sp.mn ax bx), .int .i64 (Sp.mn ay b_y), .int .i64 (Sp.mx az bz), .int .i64 (Sp.mx aw bw)]] (by kernel_rfl)

theorem grow_ok (ax ay az aw by_ : Int) :
    AC Try.prog 48 0 ([.agg #[.int .i64 ax, .int .i64 ay, .int .i64 az, .int .i64 aw], .int .i64 by_]) [] (.agg #[.int .i64 (Sp.lim 1048576 ((Sp.lim 1048576 ax) - (Sp.mx (-4194304) (Sp.mn by_ 4194304)))), .int .i64 (Sp.lim 1048576 ((Sp.lim 1048576 ay) - (Sp.mx (-4194304) (Sp.mn by_ 4194304)))), .int .i64 (Sp.lim 1048576 ((Sp.lim 1048576 az) + (Sp.mx (-4194304) (Sp.mn by_ 4194304)))), .int .i64 (Sp.lim 1048576 ((Sp.lim 1048576 aw) + (Sp.mx (-4194304) (Sp.mn by_ 4194304))))]) [] := by
  have qax := Sp.lim_bd (m := 1048576) (by decide) ax; have qay := Sp.lim_bd (m := 1048576) (by decide) ay; have qaz := Sp.lim_bd (m := 1048576) (by decide) az; have qaw := Sp.lim_bd (m := 1048576) (by decide) aw; have g : -4194304 ≤ Sp.mx (-4194304) (Sp.mn by_ 4194304) ∧ Sp.mx (-4194304) (Sp.mn by_ 4194304) ≤ 4194304 := (by unfold Sp.mx Sp.mn; (repeat' split) <;> omega)
  refine ac_in Try.func48 (fun w0 W pin => ?_)
  refine aw_p 3 (
    .a 2 1 <| .nil _ _) ?_
  refine aw_p 7 (
    .a 4 3 <| .nil _ _) ?_
  refine aw_d 15 (
    .a 2 3 <| .p (does_c (clamp_ok ax ay)) <| .a 2 3 <| .p (does_c (clamp_ok az aw)) <| .a 4 3 <| .nil _ _) ?_
  refine aw_d 31 (
    .a 3 5 <| .p (does_i ((Sp.lim 1048576 ax) - (Sp.mx (-4194304) (Sp.mn by_ 4194304))) (wrap_i64 (by omega) (by omega)) .i64) <| .a 3 5 <| .p (does_i ((Sp.lim 1048576 ay) - (Sp.mx (-4194304) (Sp.mn by_ 4194304))) (wrap_i64 (by omega) (by omega)) .i64) <| .a 1 5 <|
    .p (does_c (clamp_ok ((Sp.lim 1048576 ax) - (Sp.mx (-4194304) (Sp.mn by_ 4194304))) ((Sp.lim 1048576 ay) - (Sp.mx (-4194304) (Sp.mn by_ 4194304))))) <| .a 3 5 <| .p (does_i ((Sp.lim 1048576 az) + (Sp.mx (-4194304) (Sp.mn by_ 4194304))) (wrap_i64 (by omega) (by omega)) .i64) <| .a 3 5 <|
    .p (does_i ((Sp.lim 1048576 aw) + (Sp.mx (-4194304) (Sp.mn by_ 4194304))) (wrap_i64 (by omega) (by omega)) .i64) <| .a 1 5 <| .p (does_c (clamp_ok ((Sp.lim 1048576 az) + (Sp.mx (-4194304) (Sp.mn by_ 4194304))) ((Sp.lim 1048576 aw) + (Sp.mx (-4194304) (Sp.mn by_ 4194304))))) <| .a 2 5 <| .nil _ _) ?_
  refine aw_w [(0, .agg #[.int .i64 ax, .int .i64 ay, .int .i64 az, .int .i64 aw]), (1, .int .i64 (Sp.mx (-4194304) (Sp.mn by_ 4194304))), (2, .pointer (some ⟨1, 0, none⟩)), (4, .pointer (some ⟨2, 0, none⟩)), (5, .pointer (some ⟨3, 0, none⟩)), (6, .pointer (some ⟨4, 0, none⟩)), (7, .int .i64 by_), (8, .int .i64 (Sp.mn by_ 4194304)), (9, .int .i64 (Sp.mx (-4194304) (Sp.mn by_ 4194304))), (10, .pointer (some ⟨1, 0, none⟩)), (11, .agg #[.int .i64 ax, .int .i64 ay]), (12, .agg #[.int .i64 (Sp.lim 1048576 ax), .int .i64 (Sp.lim 1048576 ay)]), (13, .pointer (some ⟨1, 2, none⟩)), (14, .agg #[.int .i64 az, .int .i64 aw]), (15, .agg #[.int .i64 (Sp.lim 1048576 az), .int .i64 (Sp.lim 1048576 aw)])] [(1, ⟨[.int .i64 ax, .int .i64 ay, .int .i64 az, .int .i64 aw], 37, true, 4⟩), (2, ⟨[.int .i64 (Sp.lim 1048576 ((Sp.lim 1048576 ax) - (Sp.mx (-4194304) (Sp.mn by_ 4194304)))), .int .i64 (Sp.lim 1048576 ((Sp.lim 1048576 ay) - (Sp.mx (-4194304) (Sp.mn by_ 4194304)))), .int .i64 (Sp.lim 1048576 ((Sp.lim 1048576 az) + (Sp.mx (-4194304) (Sp.mn by_ 4194304)))), .int .i64 (Sp.lim 1048576 ((Sp.lim 1048576 aw) + (Sp.mx (-4194304) (Sp.mn by_ 4194304))))], 37, true, 4⟩), (3, ⟨[.int .i64 (Sp.lim 1048576 ax), .int .i64 (Sp.lim 1048576 ay)], 28, true, 2⟩), (4, ⟨[.int .i64 (Sp.lim 1048576 az), .int .i64 (Sp.lim 1048576 aw)], 28, true, 2⟩)] ?_
  refine aw_rt ?_
  exact en_ret [.agg #[.int .i64 (Sp.lim 1048576 ((Sp.lim 1048576 ax) - (Sp.mx (-4194304) (Sp.mn by_ 4194304)))), .int .i64 (Sp.lim 1048576 ((Sp.lim 1048576 ay) - (Sp.mx (-4194304) (Sp.mn by_ 4194304)))), .int .i64 (Sp.lim 1048576 ((Sp.lim 1048576 az) + (Sp.mx (-4194304) (Sp.mn by_ 4194304)))), .int .i64 (Sp.lim 1048576 ((Sp.lim 1048576 aw) + (Sp.mx (-4194304) (Sp.mn by_ 4194304))))]] (by kernel_rfl)

theorem boxof_ro (ps : List (Int × Int)) (hz : ps.length ≤ 9223372036854775807) :
    AC Try.prog 42 1 ([.slice (some ⟨0, 0, none⟩) ps.length 0]) [(0, ⟨(ps.flatMap ptc), 28, false, 2⟩)] (.agg #[.int .i64 ((Sp.bxo ps ps.length).1), .int .i64 ((Sp.bxo ps ps.length).2.1), .int .i64 ((Sp.bxo ps ps.length).2.2.1), .int .i64 ((Sp.bxo ps ps.length).2.2.2)]) [] := by
  refine ac_in Try.func42 (fun w0 W pin => ?_)
  refine aw_p 3 (
    .a 1 1 <| .nil _ _) ?_
  refine aw_p 7 (
    .a 1 2 <| .nil _ _) ?_
  refine aw_sq 14 15 ?_
  refine aw_p 29 (
    .a 3 3 <| .nil _ _) ?_
  refine aw_bl 0 59 ?_
  refine aw_lp 119 ?_
  refine al_w [(0, .slice (some ⟨0, 0, none⟩) ps.length 0), (2, .pointer (some ⟨1, 0, none⟩)), (3, .pointer (some ⟨2, 0, none⟩)), (6, .slice (some ⟨0, 0, none⟩) ps.length 0), (7, .int .i64 ((ps.length : Nat) : Int)), (8, .int .i64 ((0 : Nat) : Int))] [(0, ⟨(ps.flatMap ptc), 28, false, 2⟩), (1, ⟨[.int .i64 0, .int .i64 0, .int .i64 0, .int .i64 0], 37, true, 4⟩), (2, ⟨[.int .i64 0, .int .i64 0, .int .i64 0, .int .i64 0], 37, true, 4⟩)] ?_ (hc := (by simp [closedB, valsB, valB, List.all_eq_true, List.mem_flatMap, ptc, flat1]; try decide))
  refine al_ind (fun i : Nat × Int × Int × Int × Int => (fun (i : Nat) (a : Int) (b : Int) (c : Int) (d : Int) => mkSt 1 [(0, .slice (some ⟨0, 0, none⟩) ps.length 0), (2, .pointer (some ⟨1, 0, none⟩)), (3, .pointer (some ⟨2, 0, none⟩)), (6, .slice (some ⟨0, 0, none⟩) ps.length 0), (7, .int .i64 ((ps.length : Nat) : Int)), (8, .int .i64 ((i : Nat) : Int))] [(0, ⟨(ps.flatMap ptc), 28, false, 2⟩), (1, ⟨[.int .i64 0, .int .i64 0, .int .i64 0, .int .i64 0], 37, true, 4⟩), (2, ⟨[.int .i64 a, .int .i64 b, .int .i64 c, .int .i64 d], 37, true, 4⟩)]) i.1 i.2.1 i.2.2.1 i.2.2.2.1 i.2.2.2.2) (fun i : Nat × Int × Int × Int × Int => (fun (i : Nat) (a : Int) (b : Int) (c : Int) (d : Int) => (i ≤ ps.length) ∧ (a = (Sp.bxo ps i).1) ∧ (b = (Sp.bxo ps i).2.1) ∧ (c = (Sp.bxo ps i).2.2.1) ∧ (d = (Sp.bxo ps i).2.2.2)) i.1 i.2.1 i.2.2.1 i.2.2.2.1 i.2.2.2.2) (fun i : Nat × Int × Int × Int × Int => (fun (i : Nat) (a : Int) (b : Int) (c : Int) (d : Int) => ps.length - i) i.1 i.2.1 i.2.2.1 i.2.2.2.1 i.2.2.2.2) (fun i hi1 ih1 => ?_) (0, 0, 0, 0, 0) (show (0 ≤ ps.length) ∧ (0 = (Sp.bxo ps 0).1) ∧ (0 = (Sp.bxo ps 0).2.1) ∧ (0 = (Sp.bxo ps 0).2.2.1) ∧ (0 = (Sp.bxo ps 0).2.2.2) from ⟨by omega, by rfl, by rfl, by rfl, by rfl⟩)
  obtain ⟨i, a, b, c, d⟩ := i
  have hi1' : (i ≤ ps.length) ∧ (a = (Sp.bxo ps i).1) ∧ (b = (Sp.bxo ps i).2.1) ∧ (c = (Sp.bxo ps i).2.2.1) ∧ (d = (Sp.bxo ps i).2.2.2) := hi1
  obtain ⟨hi, ha, hb, hc, hd⟩ := hi1'
  show AL _ _ _ (mkSt 1 [(0, .slice (some ⟨0, 0, none⟩) ps.length 0), (2, .pointer (some ⟨1, 0, none⟩)), (3, .pointer (some ⟨2, 0, none⟩)), (6, .slice (some ⟨0, 0, none⟩) ps.length 0), (7, .int .i64 ((ps.length : Nat) : Int)), (8, .int .i64 ((i : Nat) : Int))] [(0, ⟨(ps.flatMap ptc), 28, false, 2⟩), (1, ⟨[.int .i64 0, .int .i64 0, .int .i64 0, .int .i64 0], 37, true, 4⟩), (2, ⟨[.int .i64 a, .int .i64 b, .int .i64 c, .int .i64 d], 37, true, 4⟩)]) _
  refine al_round ?_
  refine aw_p 239 (
    .a 1 3 <| .nil _ _) ?_
  refine aw_sq 478 479 ?_
  refine aw_cd 956 957 (decide (((i : Nat) : Int) < ((ps.length : Nat) : Int))) (fun h1 => ?_) (fun h1 => ?_)
  · have h1p : ((((i : Nat) : Int) < ((ps.length : Nat) : Int))) := by first | (simpa using h1) | (have h1q := h1; simp at h1q; omega) | (have h1q := bx1 h1; simp at h1q; omega)
    refine aw_sk ?_
    refine then_normal ?_
    refine aw_sq 958 959 ?_
    refine aw_bl 1 1917 ?_
    refine aw_p 3835 (
      .a 1 3 <| .p (does_indexSlice (t := 30) (x := .tmp 6) (y := .tmp 8) (k := 0) (off := 0) (n := ps.length) (c := 0) (z := 2) (kd := .i64) (j := ((i : Nat) : Int)) (by kernel_rfl) (by kernel_rfl) (by kernel_rfl) (by kernel_rfl) (by kernel_rfl) (by omega) (by omega)) <|
      .p (does_load (t := 28) (x := .tmp 11) (k := 0) (off := (0 + (((i : Nat) : Int)).toNat * 2)) (b := ⟨(ps.flatMap ptc), 28, false, 2⟩) (v := .agg #[.int .i64 ((ps.getD i (0, 0)).1), .int .i64 ((ps.getD i (0, 0)).2)]) (by kernel_rfl) (by kernel_rfl) (by kernel_rfl) (ldV_pair (j := i) (by kernel_rfl) (by kernel_rfl) (by omega) (by omega))) <|
      .a 3 3 <| .nil _ _) ?_
    refine aw_p 7671 (
      .a 1 4 <| .p (does_c (clamp_ok ((ps.getD i (0, 0)).1) ((ps.getD i (0, 0)).2))) <| .a 1 4 <| .nil _ _) ?_
    refine aw_sq 15342 15343 ?_
    refine aw_p 30685 (
      .a 2 4 <| .nil _ _) ?_
    refine aw_cd 61370 61371 (((i : Nat) : Int) == 0) (fun h2 => ?_) (fun h2 => ?_)
    · have h2p : ((((i : Nat) : Int) = 0)) := by first | (simpa using h2) | (have h2q := h2; simp at h2q; omega) | (have h2q := bx1 h2; simp at h2q; omega)
      refine aw_p1 (
        .a 4 4 <| .nil _ _) ?_
      refine then_normal ?_
      refine aw_p1 (
        .a 4 4 <|
        .p (does_c (join_ok (Sp.lim 1048576 ((ps.getD i (0, 0)).1)) (Sp.lim 1048576 ((ps.getD i (0, 0)).2)) (Sp.lim 1048576 ((ps.getD i (0, 0)).1)) (Sp.lim 1048576 ((ps.getD i (0, 0)).2)) (Sp.lim 1048576 ((ps.getD i (0, 0)).1)) (Sp.lim 1048576 ((ps.getD i (0, 0)).2)) (Sp.lim 1048576 ((ps.getD i (0, 0)).1)) (Sp.lim 1048576 ((ps.getD i (0, 0)).2)))) <|
        .a 1 4 <| .nil _ _) ?_
      refine block_normal ?_
      refine then_normal ?_
      refine aw_p1 (
        .p (does_i (((i : Nat) : Int) + 1) (wrap_i64 (by omega) (by omega)) .i64) <| .a 1 4 <| .nil _ _) ?_
      refine then_normal ?_
      refine al_w [(0, .slice (some ⟨0, 0, none⟩) ps.length 0), (2, .pointer (some ⟨1, 0, none⟩)), (3, .pointer (some ⟨2, 0, none⟩)), (6, .slice (some ⟨0, 0, none⟩) ps.length 0), (7, .int .i64 ((ps.length : Nat) : Int)), (8, .int .i64 (((i + 1) : Nat) : Int))] [(0, ⟨(ps.flatMap ptc), 28, false, 2⟩), (1, ⟨[.int .i64 0, .int .i64 0, .int .i64 0, .int .i64 0], 37, true, 4⟩), (2, ⟨[.int .i64 (Sp.mn (Sp.lim 1048576 ((ps.getD i (0, 0)).1)) (Sp.lim 1048576 ((ps.getD i (0, 0)).1))), .int .i64 (Sp.mn (Sp.lim 1048576 ((ps.getD i (0, 0)).2)) (Sp.lim 1048576 ((ps.getD i (0, 0)).2))), .int .i64 (Sp.mx (Sp.lim 1048576 ((ps.getD i (0, 0)).1)) (Sp.lim 1048576 ((ps.getD i (0, 0)).1))), .int .i64 (Sp.mx (Sp.lim 1048576 ((ps.getD i (0, 0)).2)) (Sp.lim 1048576 ((ps.getD i (0, 0)).2)))], 37, true, 4⟩)] ?_ (hc := (by simp [closedB, valsB, valB, List.all_eq_true, List.mem_flatMap, ptc, flat1]; try decide))
      exact ih1 ((i + 1), (Sp.mn (Sp.lim 1048576 ((ps.getD i (0, 0)).1)) (Sp.lim 1048576 ((ps.getD i (0, 0)).1))), (Sp.mn (Sp.lim 1048576 ((ps.getD i (0, 0)).2)) (Sp.lim 1048576 ((ps.getD i (0, 0)).2))), (Sp.mx (Sp.lim 1048576 ((ps.getD i (0, 0)).1)) (Sp.lim 1048576 ((ps.getD i (0, 0)).1))), (Sp.mx (Sp.lim 1048576 ((ps.getD i (0, 0)).2)) (Sp.lim 1048576 ((ps.getD i (0, 0)).2)))) (show ((i + 1) ≤ ps.length) ∧ ((Sp.mn (Sp.lim 1048576 ((ps.getD i (0, 0)).1)) (Sp.lim 1048576 ((ps.getD i (0, 0)).1))) = (Sp.bxo ps (i + 1)).1) ∧ ((Sp.mn (Sp.lim 1048576 ((ps.getD i (0, 0)).2)) (Sp.lim 1048576 ((ps.getD i (0, 0)).2))) = (Sp.bxo ps (i + 1)).2.1) ∧ ((Sp.mx (Sp.lim 1048576 ((ps.getD i (0, 0)).1)) (Sp.lim 1048576 ((ps.getD i (0, 0)).1))) = (Sp.bxo ps (i + 1)).2.2.1) ∧ ((Sp.mx (Sp.lim 1048576 ((ps.getD i (0, 0)).2)) (Sp.lim 1048576 ((ps.getD i (0, 0)).2))) = (Sp.bxo ps (i + 1)).2.2.2) from ⟨by omega, by (first | (rw [Sp.bxo_first (by omega)]) | (rw [Sp.bxo_next (by omega), ← ha, ← hb, ← hc, ← hd])), by (first | (rw [Sp.bxo_first (by omega)]) | (rw [Sp.bxo_next (by omega), ← ha, ← hb, ← hc, ← hd])), by (first | (rw [Sp.bxo_first (by omega)]) | (rw [Sp.bxo_next (by omega), ← ha, ← hb, ← hc, ← hd])), by (first | (rw [Sp.bxo_first (by omega)]) | (rw [Sp.bxo_next (by omega), ← ha, ← hb, ← hc, ← hd]))⟩) (show ps.length - (i + 1) < ps.length - i from by omega)
    · have h2p : ¬ ((((i : Nat) : Int) = 0)) := by first | (simpa using h2) | (have h2q := h2; simp at h2q; omega) | (have h2q := bx2 h2; simp at h2q; omega)
      refine aw_sk ?_
      refine then_normal ?_
      refine aw_p1 (
        .a 4 4 <| .p (does_c (join_ok a b c d (Sp.lim 1048576 ((ps.getD i (0, 0)).1)) (Sp.lim 1048576 ((ps.getD i (0, 0)).2)) (Sp.lim 1048576 ((ps.getD i (0, 0)).1)) (Sp.lim 1048576 ((ps.getD i (0, 0)).2)))) <| .a 1 4 <| .nil _ _) ?_
      refine block_normal ?_
      refine then_normal ?_
      refine aw_p1 (
        .p (does_i (((i : Nat) : Int) + 1) (wrap_i64 (by omega) (by omega)) .i64) <| .a 1 4 <| .nil _ _) ?_
      refine then_normal ?_
      refine al_w [(0, .slice (some ⟨0, 0, none⟩) ps.length 0), (2, .pointer (some ⟨1, 0, none⟩)), (3, .pointer (some ⟨2, 0, none⟩)), (6, .slice (some ⟨0, 0, none⟩) ps.length 0), (7, .int .i64 ((ps.length : Nat) : Int)), (8, .int .i64 (((i + 1) : Nat) : Int))] [(0, ⟨(ps.flatMap ptc), 28, false, 2⟩), (1, ⟨[.int .i64 0, .int .i64 0, .int .i64 0, .int .i64 0], 37, true, 4⟩), (2, ⟨[.int .i64 (Sp.mn a (Sp.lim 1048576 ((ps.getD i (0, 0)).1))), .int .i64 (Sp.mn b (Sp.lim 1048576 ((ps.getD i (0, 0)).2))), .int .i64 (Sp.mx c (Sp.lim 1048576 ((ps.getD i (0, 0)).1))), .int .i64 (Sp.mx d (Sp.lim 1048576 ((ps.getD i (0, 0)).2)))], 37, true, 4⟩)] ?_ (hc := (by simp [closedB, valsB, valB, List.all_eq_true, List.mem_flatMap, ptc, flat1]; try decide))
      exact ih1 ((i + 1), (Sp.mn a (Sp.lim 1048576 ((ps.getD i (0, 0)).1))), (Sp.mn b (Sp.lim 1048576 ((ps.getD i (0, 0)).2))), (Sp.mx c (Sp.lim 1048576 ((ps.getD i (0, 0)).1))), (Sp.mx d (Sp.lim 1048576 ((ps.getD i (0, 0)).2)))) (show ((i + 1) ≤ ps.length) ∧ ((Sp.mn a (Sp.lim 1048576 ((ps.getD i (0, 0)).1))) = (Sp.bxo ps (i + 1)).1) ∧ ((Sp.mn b (Sp.lim 1048576 ((ps.getD i (0, 0)).2))) = (Sp.bxo ps (i + 1)).2.1) ∧ ((Sp.mx c (Sp.lim 1048576 ((ps.getD i (0, 0)).1))) = (Sp.bxo ps (i + 1)).2.2.1) ∧ ((Sp.mx d (Sp.lim 1048576 ((ps.getD i (0, 0)).2))) = (Sp.bxo ps (i + 1)).2.2.2) from ⟨by omega, by (first | (rw [Sp.bxo_first (by omega)]) | (rw [Sp.bxo_next (by omega), ← ha, ← hb, ← hc, ← hd])), by (first | (rw [Sp.bxo_first (by omega)]) | (rw [Sp.bxo_next (by omega), ← ha, ← hb, ← hc, ← hd])), by (first | (rw [Sp.bxo_first (by omega)]) | (rw [Sp.bxo_next (by omega), ← ha, ← hb, ← hc, ← hd])), by (first | (rw [Sp.bxo_first (by omega)]) | (rw [Sp.bxo_next (by omega), ← ha, ← hb, ← hc, ← hd]))⟩) (show ps.length - (i + 1) < ps.length - i from by omega)
  · have h1p : ¬ ((((i : Nat) : Int) < ((ps.length : Nat) : Int))) := by first | (simpa using h1) | (have h1q := h1; simp at h1q; omega) | (have h1q := bx2 h1; simp at h1q; omega)
    have hl : i = ps.length := by omega
    have ha' : a = (Sp.bxo ps ps.length).1 := by rw [ha, hl]
    have hb' : b = (Sp.bxo ps ps.length).2.1 := by rw [hb, hl]
    have hc' : c = (Sp.bxo ps ps.length).2.2.1 := by rw [hc, hl]
    have hd' : d = (Sp.bxo ps ps.length).2.2.2 := by rw [hd, hl]
    refine aw_ex 0 ?_
    refine then_exit ?_
    refine then_exit ?_
    refine block_exit ?_
    refine then_normal ?_
    refine aw_p 31 (
      .a 2 3 <| .nil _ _) ?_
    refine aw_rt ?_
    exact en_ret [.agg #[.int .i64 a, .int .i64 b, .int .i64 c, .int .i64 d]] (show (.agg #[.int .i64 a, .int .i64 b, .int .i64 c, .int .i64 d] : Value) = (.agg #[.int .i64 ((Sp.bxo ps ps.length).1), .int .i64 ((Sp.bxo ps ps.length).2.1), .int .i64 ((Sp.bxo ps ps.length).2.2.1), .int .i64 ((Sp.bxo ps ps.length).2.2.2)]) from (congrArg (fun z : List Value => Value.agg z.toArray) (lcons (congrArg (Value.int .i64) (show a = ((Sp.bxo ps ps.length).1) from by (first | exact ha' | exact hb' | exact hc' | exact hd'))) (lcons (congrArg (Value.int .i64) (show b = ((Sp.bxo ps ps.length).2.1) from by (first | exact ha' | exact hb' | exact hc' | exact hd'))) (lcons (congrArg (Value.int .i64) (show c = ((Sp.bxo ps ps.length).2.2.1) from by (first | exact ha' | exact hb' | exact hc' | exact hd'))) (lcons (congrArg (Value.int .i64) (show d = ((Sp.bxo ps ps.length).2.2.2) from by (first | exact ha' | exact hb' | exact hc' | exact hd'))) rfl))))))

theorem boxof_own (ps : List (Int × Int)) (hz : ps.length ≤ 9223372036854775807) :
    AC Try.prog 42 1 ([.slice (some ⟨0, 0, none⟩) ps.length 0]) [(0, ⟨(ps.flatMap ptc), 28, true, 2⟩)] (.agg #[.int .i64 ((Sp.bxo ps ps.length).1), .int .i64 ((Sp.bxo ps ps.length).2.1), .int .i64 ((Sp.bxo ps ps.length).2.2.1), .int .i64 ((Sp.bxo ps ps.length).2.2.2)]) [(0, ⟨(ps.flatMap ptc), 28, true, 2⟩)] := by
  refine ac_in Try.func42 (fun w0 W pin => ?_)
  refine aw_p 3 (
    .a 1 1 <| .nil _ _) ?_
  refine aw_p 7 (
    .a 1 2 <| .nil _ _) ?_
  refine aw_sq 14 15 ?_
  refine aw_p 29 (
    .a 3 3 <| .nil _ _) ?_
  refine aw_bl 0 59 ?_
  refine aw_lp 119 ?_
  refine al_w [(0, .slice (some ⟨0, 0, none⟩) ps.length 0), (2, .pointer (some ⟨1, 0, none⟩)), (3, .pointer (some ⟨2, 0, none⟩)), (6, .slice (some ⟨0, 0, none⟩) ps.length 0), (7, .int .i64 ((ps.length : Nat) : Int)), (8, .int .i64 ((0 : Nat) : Int))] [(0, ⟨(ps.flatMap ptc), 28, true, 2⟩), (1, ⟨[.int .i64 0, .int .i64 0, .int .i64 0, .int .i64 0], 37, true, 4⟩), (2, ⟨[.int .i64 0, .int .i64 0, .int .i64 0, .int .i64 0], 37, true, 4⟩)] ?_ (hc := (by simp [closedB, valsB, valB, List.all_eq_true, List.mem_flatMap, ptc, flat1]; try decide))
  refine al_ind (fun i : Nat × Int × Int × Int × Int => (fun (i : Nat) (a : Int) (b : Int) (c : Int) (d : Int) => mkSt 1 [(0, .slice (some ⟨0, 0, none⟩) ps.length 0), (2, .pointer (some ⟨1, 0, none⟩)), (3, .pointer (some ⟨2, 0, none⟩)), (6, .slice (some ⟨0, 0, none⟩) ps.length 0), (7, .int .i64 ((ps.length : Nat) : Int)), (8, .int .i64 ((i : Nat) : Int))] [(0, ⟨(ps.flatMap ptc), 28, true, 2⟩), (1, ⟨[.int .i64 0, .int .i64 0, .int .i64 0, .int .i64 0], 37, true, 4⟩), (2, ⟨[.int .i64 a, .int .i64 b, .int .i64 c, .int .i64 d], 37, true, 4⟩)]) i.1 i.2.1 i.2.2.1 i.2.2.2.1 i.2.2.2.2) (fun i : Nat × Int × Int × Int × Int => (fun (i : Nat) (a : Int) (b : Int) (c : Int) (d : Int) => (i ≤ ps.length) ∧ (a = (Sp.bxo ps i).1) ∧ (b = (Sp.bxo ps i).2.1) ∧ (c = (Sp.bxo ps i).2.2.1) ∧ (d = (Sp.bxo ps i).2.2.2)) i.1 i.2.1 i.2.2.1 i.2.2.2.1 i.2.2.2.2) (fun i : Nat × Int × Int × Int × Int => (fun (i : Nat) (a : Int) (b : Int) (c : Int) (d : Int) => ps.length - i) i.1 i.2.1 i.2.2.1 i.2.2.2.1 i.2.2.2.2) (fun i hi1 ih1 => ?_) (0, 0, 0, 0, 0) (show (0 ≤ ps.length) ∧ (0 = (Sp.bxo ps 0).1) ∧ (0 = (Sp.bxo ps 0).2.1) ∧ (0 = (Sp.bxo ps 0).2.2.1) ∧ (0 = (Sp.bxo ps 0).2.2.2) from ⟨by omega, by rfl, by rfl, by rfl, by rfl⟩)
  obtain ⟨i, a, b, c, d⟩ := i
  have hi1' : (i ≤ ps.length) ∧ (a = (Sp.bxo ps i).1) ∧ (b = (Sp.bxo ps i).2.1) ∧ (c = (Sp.bxo ps i).2.2.1) ∧ (d = (Sp.bxo ps i).2.2.2) := hi1
  obtain ⟨hi, ha, hb, hc, hd⟩ := hi1'
  show AL _ _ _ (mkSt 1 [(0, .slice (some ⟨0, 0, none⟩) ps.length 0), (2, .pointer (some ⟨1, 0, none⟩)), (3, .pointer (some ⟨2, 0, none⟩)), (6, .slice (some ⟨0, 0, none⟩) ps.length 0), (7, .int .i64 ((ps.length : Nat) : Int)), (8, .int .i64 ((i : Nat) : Int))] [(0, ⟨(ps.flatMap ptc), 28, true, 2⟩), (1, ⟨[.int .i64 0, .int .i64 0, .int .i64 0, .int .i64 0], 37, true, 4⟩), (2, ⟨[.int .i64 a, .int .i64 b, .int .i64 c, .int .i64 d], 37, true, 4⟩)]) _
  refine al_round ?_
  refine aw_p 239 (
    .a 1 3 <| .nil _ _) ?_
  refine aw_sq 478 479 ?_
  refine aw_cd 956 957 (decide (((i : Nat) : Int) < ((ps.length : Nat) : Int))) (fun h1 => ?_) (fun h1 => ?_)
  · have h1p : ((((i : Nat) : Int) < ((ps.length : Nat) : Int))) := by first | (simpa using h1) | (have h1q := h1; simp at h1q; omega) | (have h1q := bx1 h1; simp at h1q; omega)
    refine aw_sk ?_
    refine then_normal ?_
    refine aw_sq 958 959 ?_
    refine aw_bl 1 1917 ?_
    refine aw_p 3835 (
      .a 1 3 <| .p (does_indexSlice (t := 30) (x := .tmp 6) (y := .tmp 8) (k := 0) (off := 0) (n := ps.length) (c := 0) (z := 2) (kd := .i64) (j := ((i : Nat) : Int)) (by kernel_rfl) (by kernel_rfl) (by kernel_rfl) (by kernel_rfl) (by kernel_rfl) (by omega) (by omega)) <|
      .p (does_load (t := 28) (x := .tmp 11) (k := 0) (off := (0 + (((i : Nat) : Int)).toNat * 2)) (b := ⟨(ps.flatMap ptc), 28, true, 2⟩) (v := .agg #[.int .i64 ((ps.getD i (0, 0)).1), .int .i64 ((ps.getD i (0, 0)).2)]) (by kernel_rfl) (by kernel_rfl) (by kernel_rfl) (ldV_pair (j := i) (by kernel_rfl) (by kernel_rfl) (by omega) (by omega))) <|
      .a 3 3 <| .nil _ _) ?_
    refine aw_p 7671 (
      .a 1 4 <| .p (does_c (clamp_ok ((ps.getD i (0, 0)).1) ((ps.getD i (0, 0)).2))) <| .a 1 4 <| .nil _ _) ?_
    refine aw_sq 15342 15343 ?_
    refine aw_p 30685 (
      .a 2 4 <| .nil _ _) ?_
    refine aw_cd 61370 61371 (((i : Nat) : Int) == 0) (fun h2 => ?_) (fun h2 => ?_)
    · have h2p : ((((i : Nat) : Int) = 0)) := by first | (simpa using h2) | (have h2q := h2; simp at h2q; omega) | (have h2q := bx1 h2; simp at h2q; omega)
      refine aw_p1 (
        .a 4 4 <| .nil _ _) ?_
      refine then_normal ?_
      refine aw_p1 (
        .a 4 4 <|
        .p (does_c (join_ok (Sp.lim 1048576 ((ps.getD i (0, 0)).1)) (Sp.lim 1048576 ((ps.getD i (0, 0)).2)) (Sp.lim 1048576 ((ps.getD i (0, 0)).1)) (Sp.lim 1048576 ((ps.getD i (0, 0)).2)) (Sp.lim 1048576 ((ps.getD i (0, 0)).1)) (Sp.lim 1048576 ((ps.getD i (0, 0)).2)) (Sp.lim 1048576 ((ps.getD i (0, 0)).1)) (Sp.lim 1048576 ((ps.getD i (0, 0)).2)))) <|
        .a 1 4 <| .nil _ _) ?_
      refine block_normal ?_
      refine then_normal ?_
      refine aw_p1 (
        .p (does_i (((i : Nat) : Int) + 1) (wrap_i64 (by omega) (by omega)) .i64) <| .a 1 4 <| .nil _ _) ?_
      refine then_normal ?_
      refine al_w [(0, .slice (some ⟨0, 0, none⟩) ps.length 0), (2, .pointer (some ⟨1, 0, none⟩)), (3, .pointer (some ⟨2, 0, none⟩)), (6, .slice (some ⟨0, 0, none⟩) ps.length 0), (7, .int .i64 ((ps.length : Nat) : Int)), (8, .int .i64 (((i + 1) : Nat) : Int))] [(0, ⟨(ps.flatMap ptc), 28, true, 2⟩), (1, ⟨[.int .i64 0, .int .i64 0, .int .i64 0, .int .i64 0], 37, true, 4⟩), (2, ⟨[.int .i64 (Sp.mn (Sp.lim 1048576 ((ps.getD i (0, 0)).1)) (Sp.lim 1048576 ((ps.getD i (0, 0)).1))), .int .i64 (Sp.mn (Sp.lim 1048576 ((ps.getD i (0, 0)).2)) (Sp.lim 1048576 ((ps.getD i (0, 0)).2))), .int .i64 (Sp.mx (Sp.lim 1048576 ((ps.getD i (0, 0)).1)) (Sp.lim 1048576 ((ps.getD i (0, 0)).1))), .int .i64 (Sp.mx (Sp.lim 1048576 ((ps.getD i (0, 0)).2)) (Sp.lim 1048576 ((ps.getD i (0, 0)).2)))], 37, true, 4⟩)] ?_ (hc := (by simp [closedB, valsB, valB, List.all_eq_true, List.mem_flatMap, ptc, flat1]; try decide))
      exact ih1 ((i + 1), (Sp.mn (Sp.lim 1048576 ((ps.getD i (0, 0)).1)) (Sp.lim 1048576 ((ps.getD i (0, 0)).1))), (Sp.mn (Sp.lim 1048576 ((ps.getD i (0, 0)).2)) (Sp.lim 1048576 ((ps.getD i (0, 0)).2))), (Sp.mx (Sp.lim 1048576 ((ps.getD i (0, 0)).1)) (Sp.lim 1048576 ((ps.getD i (0, 0)).1))), (Sp.mx (Sp.lim 1048576 ((ps.getD i (0, 0)).2)) (Sp.lim 1048576 ((ps.getD i (0, 0)).2)))) (show ((i + 1) ≤ ps.length) ∧ ((Sp.mn (Sp.lim 1048576 ((ps.getD i (0, 0)).1)) (Sp.lim 1048576 ((ps.getD i (0, 0)).1))) = (Sp.bxo ps (i + 1)).1) ∧ ((Sp.mn (Sp.lim 1048576 ((ps.getD i (0, 0)).2)) (Sp.lim 1048576 ((ps.getD i (0, 0)).2))) = (Sp.bxo ps (i + 1)).2.1) ∧ ((Sp.mx (Sp.lim 1048576 ((ps.getD i (0, 0)).1)) (Sp.lim 1048576 ((ps.getD i (0, 0)).1))) = (Sp.bxo ps (i + 1)).2.2.1) ∧ ((Sp.mx (Sp.lim 1048576 ((ps.getD i (0, 0)).2)) (Sp.lim 1048576 ((ps.getD i (0, 0)).2))) = (Sp.bxo ps (i + 1)).2.2.2) from ⟨by omega, by (first | (rw [Sp.bxo_first (by omega)]) | (rw [Sp.bxo_next (by omega), ← ha, ← hb, ← hc, ← hd])), by (first | (rw [Sp.bxo_first (by omega)]) | (rw [Sp.bxo_next (by omega), ← ha, ← hb, ← hc, ← hd])), by (first | (rw [Sp.bxo_first (by omega)]) | (rw [Sp.bxo_next (by omega), ← ha, ← hb, ← hc, ← hd])), by (first | (rw [Sp.bxo_first (by omega)]) | (rw [Sp.bxo_next (by omega), ← ha, ← hb, ← hc, ← hd]))⟩) (show ps.length - (i + 1) < ps.length - i from by omega)
    · have h2p : ¬ ((((i : Nat) : Int) = 0)) := by first | (simpa using h2) | (have h2q := h2; simp at h2q; omega) | (have h2q := bx2 h2; simp at h2q; omega)
      refine aw_sk ?_
      refine then_normal ?_
      refine aw_p1 (
        .a 4 4 <| .p (does_c (join_ok a b c d (Sp.lim 1048576 ((ps.getD i (0, 0)).1)) (Sp.lim 1048576 ((ps.getD i (0, 0)).2)) (Sp.lim 1048576 ((ps.getD i (0, 0)).1)) (Sp.lim 1048576 ((ps.getD i (0, 0)).2)))) <| .a 1 4 <| .nil _ _) ?_
      refine block_normal ?_
      refine then_normal ?_
      refine aw_p1 (
        .p (does_i (((i : Nat) : Int) + 1) (wrap_i64 (by omega) (by omega)) .i64) <| .a 1 4 <| .nil _ _) ?_
      refine then_normal ?_
      refine al_w [(0, .slice (some ⟨0, 0, none⟩) ps.length 0), (2, .pointer (some ⟨1, 0, none⟩)), (3, .pointer (some ⟨2, 0, none⟩)), (6, .slice (some ⟨0, 0, none⟩) ps.length 0), (7, .int .i64 ((ps.length : Nat) : Int)), (8, .int .i64 (((i + 1) : Nat) : Int))] [(0, ⟨(ps.flatMap ptc), 28, true, 2⟩), (1, ⟨[.int .i64 0, .int .i64 0, .int .i64 0, .int .i64 0], 37, true, 4⟩), (2, ⟨[.int .i64 (Sp.mn a (Sp.lim 1048576 ((ps.getD i (0, 0)).1))), .int .i64 (Sp.mn b (Sp.lim 1048576 ((ps.getD i (0, 0)).2))), .int .i64 (Sp.mx c (Sp.lim 1048576 ((ps.getD i (0, 0)).1))), .int .i64 (Sp.mx d (Sp.lim 1048576 ((ps.getD i (0, 0)).2)))], 37, true, 4⟩)] ?_ (hc := (by simp [closedB, valsB, valB, List.all_eq_true, List.mem_flatMap, ptc, flat1]; try decide))
      exact ih1 ((i + 1), (Sp.mn a (Sp.lim 1048576 ((ps.getD i (0, 0)).1))), (Sp.mn b (Sp.lim 1048576 ((ps.getD i (0, 0)).2))), (Sp.mx c (Sp.lim 1048576 ((ps.getD i (0, 0)).1))), (Sp.mx d (Sp.lim 1048576 ((ps.getD i (0, 0)).2)))) (show ((i + 1) ≤ ps.length) ∧ ((Sp.mn a (Sp.lim 1048576 ((ps.getD i (0, 0)).1))) = (Sp.bxo ps (i + 1)).1) ∧ ((Sp.mn b (Sp.lim 1048576 ((ps.getD i (0, 0)).2))) = (Sp.bxo ps (i + 1)).2.1) ∧ ((Sp.mx c (Sp.lim 1048576 ((ps.getD i (0, 0)).1))) = (Sp.bxo ps (i + 1)).2.2.1) ∧ ((Sp.mx d (Sp.lim 1048576 ((ps.getD i (0, 0)).2))) = (Sp.bxo ps (i + 1)).2.2.2) from ⟨by omega, by (first | (rw [Sp.bxo_first (by omega)]) | (rw [Sp.bxo_next (by omega), ← ha, ← hb, ← hc, ← hd])), by (first | (rw [Sp.bxo_first (by omega)]) | (rw [Sp.bxo_next (by omega), ← ha, ← hb, ← hc, ← hd])), by (first | (rw [Sp.bxo_first (by omega)]) | (rw [Sp.bxo_next (by omega), ← ha, ← hb, ← hc, ← hd])), by (first | (rw [Sp.bxo_first (by omega)]) | (rw [Sp.bxo_next (by omega), ← ha, ← hb, ← hc, ← hd]))⟩) (show ps.length - (i + 1) < ps.length - i from by omega)
  · have h1p : ¬ ((((i : Nat) : Int) < ((ps.length : Nat) : Int))) := by first | (simpa using h1) | (have h1q := h1; simp at h1q; omega) | (have h1q := bx2 h1; simp at h1q; omega)
    have hl : i = ps.length := by omega
    have ha' : a = (Sp.bxo ps ps.length).1 := by rw [ha, hl]
    have hb' : b = (Sp.bxo ps ps.length).2.1 := by rw [hb, hl]
    have hc' : c = (Sp.bxo ps ps.length).2.2.1 := by rw [hc, hl]
    have hd' : d = (Sp.bxo ps ps.length).2.2.2 := by rw [hd, hl]
    refine aw_ex 0 ?_
    refine then_exit ?_
    refine then_exit ?_
    refine block_exit ?_
    refine then_normal ?_
    refine aw_p 31 (
      .a 2 3 <| .nil _ _) ?_
    refine aw_rt ?_
    exact en_ret [.agg #[.int .i64 a, .int .i64 b, .int .i64 c, .int .i64 d]] (show (.agg #[.int .i64 a, .int .i64 b, .int .i64 c, .int .i64 d] : Value) = (.agg #[.int .i64 ((Sp.bxo ps ps.length).1), .int .i64 ((Sp.bxo ps ps.length).2.1), .int .i64 ((Sp.bxo ps ps.length).2.2.1), .int .i64 ((Sp.bxo ps ps.length).2.2.2)]) from (congrArg (fun z : List Value => Value.agg z.toArray) (lcons (congrArg (Value.int .i64) (show a = ((Sp.bxo ps ps.length).1) from by (first | exact ha' | exact hb' | exact hc' | exact hd'))) (lcons (congrArg (Value.int .i64) (show b = ((Sp.bxo ps ps.length).2.1) from by (first | exact ha' | exact hb' | exact hc' | exact hd'))) (lcons (congrArg (Value.int .i64) (show c = ((Sp.bxo ps ps.length).2.2.1) from by (first | exact ha' | exact hb' | exact hc' | exact hd'))) (lcons (congrArg (Value.int .i64) (show d = ((Sp.bxo ps ps.length).2.2.2) from by (first | exact ha' | exact hb' | exact hc' | exact hd'))) rfl))))))


end Go.Proofs.Ytndkhgfecnbmnaa.Am
