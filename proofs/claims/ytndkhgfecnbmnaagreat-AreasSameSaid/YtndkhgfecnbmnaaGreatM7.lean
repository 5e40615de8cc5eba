import Derived.Test.YtndkhgfecnbmnaaGreatProg
import Derived.Test.YtndkhgfecnbmnaaGreatM2
import Derived.Test.YtndkhgfecnbmnaaGreatM6
import Derived.Test.YtndkhgfecnbmnaaGreatM3
import Derived.Test.YtndkhgfecnbmnaaGreatM4
namespace Go.Proofs.YtndkhgfecnbmnaaGreat.Am
open Go Go.Proofs
set_option maxRecDepth 100000
set_option maxHeartbeats 4000000
set_option linter.unusedVariables false
set_option linter.unusedSimpArgs false
theorem Sp.ahF_0 {h o : Int} {t : List Int} (e : h = 0) : Sp.ahF (h :: t) o = 0 := by subst e; rfl
theorem Sp.ahF_1 {h o : Int} {t : List Int} (e : h = 1) : Sp.ahF (h :: t) o = Sp.ahF t (0 - o) := by subst e; rfl
theorem Sp.ahF_n {h o : Int} {t : List Int} (e : ¬ h = 0) (e1 : ¬ h = 1) : Sp.ahF (h :: t) o = Sp.ahF t o := by
  show (if (h == 0) = true then 0 else if (h == 1) = true then Sp.ahF t (0 - o) else Sp.ahF t o) = _
  rw [if_neg (by simpa using e), if_neg (by simpa using e1)]
theorem aw_joinB {ι : Type} {C : Ctx} {P : Program} {S : St} {S1 : ι → St} {x y : Code} {Q : Exit → St → Prop} {K : St → Prop} {id id' : Nat} (F : ι → Prop) (h : ∀ i, F i → AW C P y (S1 i) Q) (k : (∀ i, F i → AW C P y (S1 i) Q) → AW C P x S (blockQ id (blockQ id' (thenQ K Q)))) : AW C P x S (blockQ id (blockQ id' (thenQ K Q))) := k h
theorem ahas_1 (R1 : List (Int × Int)) (zR1 : 1 ≤ R1.length ∧ R1.length ≤ 200) (fR1 : Sp.Few 1000 R1) (px py : Int) :
    AC Tryz.prog 9 2 ([sV 0 1, .agg #[.int .i64 px, .int .i64 py]]) [(0, ⟨[sV 1 R1.length], 39, true, 1⟩), (1, (pB R1))] (.int .i64 (Sp.ahF [Sp.hasF R1 (Sp.lim 1048576 px) (Sp.lim 1048576 py) 0 (-1)] (-1))) [(0, ⟨[sV 1 R1.length], 39, true, 1⟩), (1, (pB R1))] := by
  refine ac_in Tryz.func9 (fun w0 W pin => ?_)
  refine aw_p 3 (
    .a 2 2 <| .nil _ _) ?_
  refine aw_p 7 (
    .a 1 3 <| .nil _ _) ?_
  refine aw_sq 14 15 ?_
  refine aw_p 29 (
    .a 3 3 <| .nil _ _) ?_
  refine aw_bl 0 59 ?_
  refine aw_lp 119 ?_
  refine al_round ?_
  refine aw_p 239 (
    .a 1 3 <| .nil _ _) ?_
  refine aw_sq 478 479 ?_
  refine aw_tr 956 ?_
  refine aw_sk ?_
  refine then_normal ?_
  refine aw_sq 958 959 ?_
  refine aw_bl 1 1917 ?_
  refine aw_p 3835 (
    .a 3 3 <| .nil _ _) ?_
  refine aw_p 7671 (
    .a 2 3 <|
    .p (cS #[.tmp 14, .tmp 15] #[39, 28] [sV 1 R1.length, .agg #[.int .i64 px, .int .i64 py]] [1] [(1, (pB R1))] (.int .i64 (Sp.hasF R1 (Sp.lim 1048576 px) (Sp.lim 1048576 py) 0 (-1))) (hasn_own R1 R1.length (rfl) (by first | omega | decide) px py) (.cons rS (.cons rF .nil)) ⟨rfl, bP, trivial⟩ rF) <| .nil _ _) ?_
  refine aw_bl 2 15343 ?_
  refine aw_p 30687 (
    .a 2 3 <| .nil _ _) ?_
  refine aw_cd 61374 61375 ((Sp.hasF R1 (Sp.lim 1048576 px) (Sp.lim 1048576 py) 0 (-1)) == 0) (fun h1 => ?_) (fun h1 => ?_)
  · have h1p : (((Sp.hasF R1 (Sp.lim 1048576 px) (Sp.lim 1048576 py) 0 (-1)) = 0)) := by first | (simpa using h1) | (have h1q := h1; simp at h1q; omega) | (have h1q := bx1 h1; simp at h1q; omega)
    refine aw_p 122749 (
      .a 1 3 <| .nil _ _) ?_
    refine aw_rt ?_
    refine block_ret ?_
    refine block_ret ?_
    refine then_ret ?_
    refine then_ret ?_
    refine block_ret ?_
    refine then_ret ?_
    exact en_ret [.int .i64 0] (show (.int .i64 0 : Value) = (.int .i64 (Sp.ahF [Sp.hasF R1 (Sp.lim 1048576 px) (Sp.lim 1048576 py) 0 (-1)] (-1))) from (congrArg (Value.int .i64) (show 0 = (Sp.ahF [Sp.hasF R1 (Sp.lim 1048576 px) (Sp.lim 1048576 py) 0 (-1)] (-1)) from by (first | exact (Sp.ahF_0 (by assumption)).symm | exact (q1.2).symm | fail))))
  · have h1p : ¬ (((Sp.hasF R1 (Sp.lim 1048576 px) (Sp.lim 1048576 py) 0 (-1)) = 0)) := by first | (simpa using h1) | (have h1q := h1; simp at h1q; omega) | (have h1q := bx2 h1; simp at h1q; omega)
    refine aw_p 122751 (
      .a 2 3 <| .nil _ _) ?_
    refine aw_joinB (y := sb Tryz.f9 959) (S1 := fun o1 => mkSt 2 [(3, .pointer (some ⟨2, 0, none⟩)), (5, .int .i64 o1), (8, sV 0 1), (9, .int .i64 1), (10, .int .i64 0)] [(0, ⟨[sV 1 R1.length], 39, true, 1⟩), (1, (pB R1)), (2, ⟨[.int .i64 px, .int .i64 py], 28, true, 2⟩)]) (fun o1 => (-1 ≤ o1 ∧ o1 ≤ 1) ∧ Sp.ahF [Sp.hasF R1 (Sp.lim 1048576 px) (Sp.lim 1048576 py) 0 (-1)] (-1) = Sp.ahF [] o1) (fun o1 q1 => ?_) (fun K1 => ?_)
    · refine aw_p1 (
        .a 2 3 <| .nil _ _) ?_
      refine then_normal ?_
      refine al_round ?_
      refine aw_p 239 (
        .a 1 3 <| .nil _ _) ?_
      refine aw_sq 478 479 ?_
      refine aw_fl 957 ?_
      refine aw_ex 0 ?_
      refine then_exit ?_
      refine then_exit ?_
      refine block_exit ?_
      refine then_normal ?_
      refine aw_p 31 (
        .a 2 3 <| .nil _ _) ?_
      refine aw_rt ?_
      exact en_ret [.int .i64 o1] (show (.int .i64 o1 : Value) = (.int .i64 (Sp.ahF [Sp.hasF R1 (Sp.lim 1048576 px) (Sp.lim 1048576 py) 0 (-1)] (-1))) from (congrArg (Value.int .i64) (show o1 = (Sp.ahF [Sp.hasF R1 (Sp.lim 1048576 px) (Sp.lim 1048576 py) 0 (-1)] (-1)) from by (first | exact (Sp.ahF_0 (by assumption)).symm | exact (q1.2).symm | fail))))
    · refine aw_cd 245502 245503 ((Sp.hasF R1 (Sp.lim 1048576 px) (Sp.lim 1048576 py) 0 (-1)) == 1) (fun h2 => ?_) (fun h2 => ?_)
      · have h2p : (((Sp.hasF R1 (Sp.lim 1048576 px) (Sp.lim 1048576 py) 0 (-1)) = 1)) := by first | (simpa using h2) | (have h2q := h2; simp at h2q; omega) | (have h2q := bx1 h2; simp at h2q; omega)
        refine aw_p1 (
          .a 3 3 <| .nil _ _) ?_
        refine block_normal ?_
        refine block_normal ?_
        refine then_normal ?_
        refine aw_w [(3, .pointer (some ⟨2, 0, none⟩)), (5, .int .i64 1), (8, sV 0 1), (9, .int .i64 1), (10, .int .i64 0)] [(0, ⟨[sV 1 R1.length], 39, true, 1⟩), (1, (pB R1)), (2, ⟨[.int .i64 px, .int .i64 py], 28, true, 2⟩)] ?_ (hc := (by simp [closedB, valsB, valB, List.all_eq_true, List.mem_flatMap, List.mem_range, List.mem_map, i64v, ptc, flat1]; try (intros; simp [valsB, valB, flat1]); try decide))
        exact K1 1 ⟨(by omega), Sp.ahF_1 h2p⟩
      · have h2p : ¬ (((Sp.hasF R1 (Sp.lim 1048576 px) (Sp.lim 1048576 py) 0 (-1)) = 1)) := by first | (simpa using h2) | (have h2q := h2; simp at h2q; omega) | (have h2q := bx2 h2; simp at h2q; omega)
        refine aw_sk ?_
        refine block_normal ?_
        refine block_normal ?_
        refine then_normal ?_
        refine aw_w [(3, .pointer (some ⟨2, 0, none⟩)), (5, .int .i64 (-1)), (8, sV 0 1), (9, .int .i64 1), (10, .int .i64 0)] [(0, ⟨[sV 1 R1.length], 39, true, 1⟩), (1, (pB R1)), (2, ⟨[.int .i64 px, .int .i64 py], 28, true, 2⟩)] ?_ (hc := (by simp [closedB, valsB, valB, List.all_eq_true, List.mem_flatMap, List.mem_range, List.mem_map, i64v, ptc, flat1]; try (intros; simp [valsB, valB, flat1]); try decide))
        exact K1 (-1) ⟨(by omega), Sp.ahF_n (by assumption) h2p⟩
theorem ahas_2 (R1 R2 : List (Int × Int)) (zR1 : 1 ≤ R1.length ∧ R1.length ≤ 200) (fR1 : Sp.Few 1000 R1) (zR2 : 1 ≤ R2.length ∧ R2.length ≤ 200) (fR2 : Sp.Few 1000 R2) (px py : Int) :
    AC Tryz.prog 9 3 ([sV 0 2, .agg #[.int .i64 px, .int .i64 py]]) [(0, ⟨[sV 1 R1.length, sV 2 R2.length], 39, true, 1⟩), (1, (pB R1)), (2, (pB R2))] (.int .i64 (Sp.ahF [Sp.hasF R1 (Sp.lim 1048576 px) (Sp.lim 1048576 py) 0 (-1), Sp.hasF R2 (Sp.lim 1048576 px) (Sp.lim 1048576 py) 0 (-1)] (-1))) [(0, ⟨[sV 1 R1.length, sV 2 R2.length], 39, true, 1⟩), (1, (pB R1)), (2, (pB R2))] := by
  refine ac_in Tryz.func9 (fun w0 W pin => ?_)
  refine aw_p 3 (
    .a 2 3 <| .nil _ _) ?_
  refine aw_p 7 (
    .a 1 4 <| .nil _ _) ?_
  refine aw_sq 14 15 ?_
  refine aw_p 29 (
    .a 3 4 <| .nil _ _) ?_
  refine aw_bl 0 59 ?_
  refine aw_lp 119 ?_
  refine al_round ?_
  refine aw_p 239 (
    .a 1 4 <| .nil _ _) ?_
  refine aw_sq 478 479 ?_
  refine aw_tr 956 ?_
  refine aw_sk ?_
  refine then_normal ?_
  refine aw_sq 958 959 ?_
  refine aw_bl 1 1917 ?_
  refine aw_p 3835 (
    .a 3 4 <| .nil _ _) ?_
  refine aw_p 7671 (
    .a 2 4 <|
    .p (cS #[.tmp 14, .tmp 15] #[39, 28] [sV 1 R1.length, .agg #[.int .i64 px, .int .i64 py]] [1] [(1, (pB R1))] (.int .i64 (Sp.hasF R1 (Sp.lim 1048576 px) (Sp.lim 1048576 py) 0 (-1))) (hasn_own R1 R1.length (rfl) (by first | omega | decide) px py) (.cons rS (.cons rF .nil)) ⟨rfl, bP, trivial⟩ rF) <| .nil _ _) ?_
  refine aw_bl 2 15343 ?_
  refine aw_p 30687 (
    .a 2 4 <| .nil _ _) ?_
  refine aw_cd 61374 61375 ((Sp.hasF R1 (Sp.lim 1048576 px) (Sp.lim 1048576 py) 0 (-1)) == 0) (fun h1 => ?_) (fun h1 => ?_)
  · have h1p : (((Sp.hasF R1 (Sp.lim 1048576 px) (Sp.lim 1048576 py) 0 (-1)) = 0)) := by first | (simpa using h1) | (have h1q := h1; simp at h1q; omega) | (have h1q := bx1 h1; simp at h1q; omega)
    refine aw_p 122749 (
      .a 1 4 <| .nil _ _) ?_
    refine aw_rt ?_
    refine block_ret ?_
    refine block_ret ?_
    refine then_ret ?_
    refine then_ret ?_
    refine block_ret ?_
    refine then_ret ?_
    exact en_ret [.int .i64 0] (show (.int .i64 0 : Value) = (.int .i64 (Sp.ahF [Sp.hasF R1 (Sp.lim 1048576 px) (Sp.lim 1048576 py) 0 (-1), Sp.hasF R2 (Sp.lim 1048576 px) (Sp.lim 1048576 py) 0 (-1)] (-1))) from (congrArg (Value.int .i64) (show 0 = (Sp.ahF [Sp.hasF R1 (Sp.lim 1048576 px) (Sp.lim 1048576 py) 0 (-1), Sp.hasF R2 (Sp.lim 1048576 px) (Sp.lim 1048576 py) 0 (-1)] (-1)) from by (first | exact (Sp.ahF_0 (by assumption)).symm | exact (q2.2).symm | exact (q1.2.trans (Sp.ahF_0 (by assumption))).symm))))
  · have h1p : ¬ (((Sp.hasF R1 (Sp.lim 1048576 px) (Sp.lim 1048576 py) 0 (-1)) = 0)) := by first | (simpa using h1) | (have h1q := h1; simp at h1q; omega) | (have h1q := bx2 h1; simp at h1q; omega)
    refine aw_p 122751 (
      .a 2 4 <| .nil _ _) ?_
    refine aw_joinB (y := sb Tryz.f9 959) (S1 := fun o1 => mkSt 3 [(3, .pointer (some ⟨3, 0, none⟩)), (5, .int .i64 o1), (8, sV 0 2), (9, .int .i64 2), (10, .int .i64 0)] [(0, ⟨[sV 1 R1.length, sV 2 R2.length], 39, true, 1⟩), (1, (pB R1)), (2, (pB R2)), (3, ⟨[.int .i64 px, .int .i64 py], 28, true, 2⟩)]) (fun o1 => (-1 ≤ o1 ∧ o1 ≤ 1) ∧ Sp.ahF [Sp.hasF R1 (Sp.lim 1048576 px) (Sp.lim 1048576 py) 0 (-1), Sp.hasF R2 (Sp.lim 1048576 px) (Sp.lim 1048576 py) 0 (-1)] (-1) = Sp.ahF [Sp.hasF R2 (Sp.lim 1048576 px) (Sp.lim 1048576 py) 0 (-1)] o1) (fun o1 q1 => ?_) (fun K1 => ?_)
    · refine aw_p1 (
        .a 2 4 <| .nil _ _) ?_
      refine then_normal ?_
      refine al_round ?_
      refine aw_p 239 (
        .a 1 4 <| .nil _ _) ?_
      refine aw_sq 478 479 ?_
      refine aw_tr 956 ?_
      refine aw_sk ?_
      refine then_normal ?_
      refine aw_sq 958 959 ?_
      refine aw_bl 1 1917 ?_
      refine aw_p 3835 (
        .a 3 4 <| .nil _ _) ?_
      refine aw_p 7671 (
        .a 2 4 <|
        .p (cS #[.tmp 14, .tmp 15] #[39, 28] [sV 2 R2.length, .agg #[.int .i64 px, .int .i64 py]] [2] [(2, (pB R2))] (.int .i64 (Sp.hasF R2 (Sp.lim 1048576 px) (Sp.lim 1048576 py) 0 (-1))) (hasn_own R2 R2.length (rfl) (by first | omega | decide) px py) (.cons rS (.cons rF .nil)) ⟨rfl, bP, trivial⟩ rF) <| .nil _ _) ?_
      refine aw_bl 2 15343 ?_
      refine aw_p 30687 (
        .a 2 4 <| .nil _ _) ?_
      refine aw_cd 61374 61375 ((Sp.hasF R2 (Sp.lim 1048576 px) (Sp.lim 1048576 py) 0 (-1)) == 0) (fun h2 => ?_) (fun h2 => ?_)
      · have h2p : (((Sp.hasF R2 (Sp.lim 1048576 px) (Sp.lim 1048576 py) 0 (-1)) = 0)) := by first | (simpa using h2) | (have h2q := h2; simp at h2q; omega) | (have h2q := bx1 h2; simp at h2q; omega)
        refine aw_p 122749 (
          .a 1 4 <| .nil _ _) ?_
        refine aw_rt ?_
        refine block_ret ?_
        refine block_ret ?_
        refine then_ret ?_
        refine then_ret ?_
        refine block_ret ?_
        refine then_ret ?_
        exact en_ret [.int .i64 0] (show (.int .i64 0 : Value) = (.int .i64 (Sp.ahF [Sp.hasF R1 (Sp.lim 1048576 px) (Sp.lim 1048576 py) 0 (-1), Sp.hasF R2 (Sp.lim 1048576 px) (Sp.lim 1048576 py) 0 (-1)] (-1))) from (congrArg (Value.int .i64) (show 0 = (Sp.ahF [Sp.hasF R1 (Sp.lim 1048576 px) (Sp.lim 1048576 py) 0 (-1), Sp.hasF R2 (Sp.lim 1048576 px) (Sp.lim 1048576 py) 0 (-1)] (-1)) from by (first | exact (Sp.ahF_0 (by assumption)).symm | exact (q2.2).symm | exact (q1.2.trans (Sp.ahF_0 (by assumption))).symm))))
      · have h2p : ¬ (((Sp.hasF R2 (Sp.lim 1048576 px) (Sp.lim 1048576 py) 0 (-1)) = 0)) := by first | (simpa using h2) | (have h2q := h2; simp at h2q; omega) | (have h2q := bx2 h2; simp at h2q; omega)
        refine aw_p 122751 (
          .a 2 4 <| .nil _ _) ?_
        refine aw_joinB (y := sb Tryz.f9 959) (S1 := fun o2 => mkSt 3 [(3, .pointer (some ⟨3, 0, none⟩)), (5, .int .i64 o2), (8, sV 0 2), (9, .int .i64 2), (10, .int .i64 1)] [(0, ⟨[sV 1 R1.length, sV 2 R2.length], 39, true, 1⟩), (1, (pB R1)), (2, (pB R2)), (3, ⟨[.int .i64 px, .int .i64 py], 28, true, 2⟩)]) (fun o2 => (-1 ≤ o2 ∧ o2 ≤ 1) ∧ Sp.ahF [Sp.hasF R1 (Sp.lim 1048576 px) (Sp.lim 1048576 py) 0 (-1), Sp.hasF R2 (Sp.lim 1048576 px) (Sp.lim 1048576 py) 0 (-1)] (-1) = Sp.ahF [] o2) (fun o2 q2 => ?_) (fun K2 => ?_)
        · refine aw_p1 (
            .a 2 4 <| .nil _ _) ?_
          refine then_normal ?_
          refine al_round ?_
          refine aw_p 239 (
            .a 1 4 <| .nil _ _) ?_
          refine aw_sq 478 479 ?_
          refine aw_fl 957 ?_
          refine aw_ex 0 ?_
          refine then_exit ?_
          refine then_exit ?_
          refine block_exit ?_
          refine then_normal ?_
          refine aw_p 31 (
            .a 2 4 <| .nil _ _) ?_
          refine aw_rt ?_
          exact en_ret [.int .i64 o2] (show (.int .i64 o2 : Value) = (.int .i64 (Sp.ahF [Sp.hasF R1 (Sp.lim 1048576 px) (Sp.lim 1048576 py) 0 (-1), Sp.hasF R2 (Sp.lim 1048576 px) (Sp.lim 1048576 py) 0 (-1)] (-1))) from (congrArg (Value.int .i64) (show o2 = (Sp.ahF [Sp.hasF R1 (Sp.lim 1048576 px) (Sp.lim 1048576 py) 0 (-1), Sp.hasF R2 (Sp.lim 1048576 px) (Sp.lim 1048576 py) 0 (-1)] (-1)) from by (first | exact (Sp.ahF_0 (by assumption)).symm | exact (q2.2).symm | exact (q1.2.trans (Sp.ahF_0 (by assumption))).symm))))
        · refine aw_cd 245502 245503 ((Sp.hasF R2 (Sp.lim 1048576 px) (Sp.lim 1048576 py) 0 (-1)) == 1) (fun h3 => ?_) (fun h3 => ?_)
          · have h3p : (((Sp.hasF R2 (Sp.lim 1048576 px) (Sp.lim 1048576 py) 0 (-1)) = 1)) := by first | (simpa using h3) | (have h3q := h3; simp at h3q; omega) | (have h3q := bx1 h3; simp at h3q; omega)
            refine aw_p1 (
              .a 1 4 <| .p (does_i (0 - o1) (wrap_i64 (by omega) (by omega)) .i64) <| .a 1 4 <| .nil _ _) ?_
            refine block_normal ?_
            refine block_normal ?_
            refine then_normal ?_
            refine aw_w [(3, .pointer (some ⟨3, 0, none⟩)), (5, .int .i64 (0 - o1)), (8, sV 0 2), (9, .int .i64 2), (10, .int .i64 1)] [(0, ⟨[sV 1 R1.length, sV 2 R2.length], 39, true, 1⟩), (1, (pB R1)), (2, (pB R2)), (3, ⟨[.int .i64 px, .int .i64 py], 28, true, 2⟩)] ?_ (hc := (by simp [closedB, valsB, valB, List.all_eq_true, List.mem_flatMap, List.mem_range, List.mem_map, i64v, ptc, flat1]; try (intros; simp [valsB, valB, flat1]); try decide))
            exact K2 (0 - o1) ⟨(by omega), q1.2.trans (Sp.ahF_1 h3p)⟩
          · have h3p : ¬ (((Sp.hasF R2 (Sp.lim 1048576 px) (Sp.lim 1048576 py) 0 (-1)) = 1)) := by first | (simpa using h3) | (have h3q := h3; simp at h3q; omega) | (have h3q := bx2 h3; simp at h3q; omega)
            refine aw_sk ?_
            refine block_normal ?_
            refine block_normal ?_
            refine then_normal ?_
            refine aw_w [(3, .pointer (some ⟨3, 0, none⟩)), (5, .int .i64 o1), (8, sV 0 2), (9, .int .i64 2), (10, .int .i64 1)] [(0, ⟨[sV 1 R1.length, sV 2 R2.length], 39, true, 1⟩), (1, (pB R1)), (2, (pB R2)), (3, ⟨[.int .i64 px, .int .i64 py], 28, true, 2⟩)] ?_ (hc := (by simp [closedB, valsB, valB, List.all_eq_true, List.mem_flatMap, List.mem_range, List.mem_map, i64v, ptc, flat1]; try (intros; simp [valsB, valB, flat1]); try decide))
            exact K2 o1 ⟨(by omega), q1.2.trans (Sp.ahF_n (by assumption) h3p)⟩
    · refine aw_cd 245502 245503 ((Sp.hasF R1 (Sp.lim 1048576 px) (Sp.lim 1048576 py) 0 (-1)) == 1) (fun h4 => ?_) (fun h4 => ?_)
      · have h4p : (((Sp.hasF R1 (Sp.lim 1048576 px) (Sp.lim 1048576 py) 0 (-1)) = 1)) := by first | (simpa using h4) | (have h4q := h4; simp at h4q; omega) | (have h4q := bx1 h4; simp at h4q; omega)
        refine aw_p1 (
          .a 3 4 <| .nil _ _) ?_
        refine block_normal ?_
        refine block_normal ?_
        refine then_normal ?_
        refine aw_w [(3, .pointer (some ⟨3, 0, none⟩)), (5, .int .i64 1), (8, sV 0 2), (9, .int .i64 2), (10, .int .i64 0)] [(0, ⟨[sV 1 R1.length, sV 2 R2.length], 39, true, 1⟩), (1, (pB R1)), (2, (pB R2)), (3, ⟨[.int .i64 px, .int .i64 py], 28, true, 2⟩)] ?_ (hc := (by simp [closedB, valsB, valB, List.all_eq_true, List.mem_flatMap, List.mem_range, List.mem_map, i64v, ptc, flat1]; try (intros; simp [valsB, valB, flat1]); try decide))
        exact K1 1 ⟨(by omega), Sp.ahF_1 h4p⟩
      · have h4p : ¬ (((Sp.hasF R1 (Sp.lim 1048576 px) (Sp.lim 1048576 py) 0 (-1)) = 1)) := by first | (simpa using h4) | (have h4q := h4; simp at h4q; omega) | (have h4q := bx2 h4; simp at h4q; omega)
        refine aw_sk ?_
        refine block_normal ?_
        refine block_normal ?_
        refine then_normal ?_
        refine aw_w [(3, .pointer (some ⟨3, 0, none⟩)), (5, .int .i64 (-1)), (8, sV 0 2), (9, .int .i64 2), (10, .int .i64 0)] [(0, ⟨[sV 1 R1.length, sV 2 R2.length], 39, true, 1⟩), (1, (pB R1)), (2, (pB R2)), (3, ⟨[.int .i64 px, .int .i64 py], 28, true, 2⟩)] ?_ (hc := (by simp [closedB, valsB, valB, List.all_eq_true, List.mem_flatMap, List.mem_range, List.mem_map, i64v, ptc, flat1]; try (intros; simp [valsB, valB, flat1]); try decide))
        exact K1 (-1) ⟨(by omega), Sp.ahF_n (by assumption) h4p⟩
theorem ahas_3 (R1 R2 R3 : List (Int × Int)) (zR1 : 1 ≤ R1.length ∧ R1.length ≤ 200) (fR1 : Sp.Few 1000 R1) (zR2 : 1 ≤ R2.length ∧ R2.length ≤ 200) (fR2 : Sp.Few 1000 R2) (zR3 : 1 ≤ R3.length ∧ R3.length ≤ 200) (fR3 : Sp.Few 1000 R3) (px py : Int) :
    AC Tryz.prog 9 4 ([sV 0 3, .agg #[.int .i64 px, .int .i64 py]]) [(0, ⟨[sV 1 R1.length, sV 2 R2.length, sV 3 R3.length], 39, true, 1⟩), (1, (pB R1)), (2, (pB R2)), (3, (pB R3))] (.int .i64 (Sp.ahF [Sp.hasF R1 (Sp.lim 1048576 px) (Sp.lim 1048576 py) 0 (-1), Sp.hasF R2 (Sp.lim 1048576 px) (Sp.lim 1048576 py) 0 (-1), Sp.hasF R3 (Sp.lim 1048576 px) (Sp.lim 1048576 py) 0 (-1)] (-1))) [(0, ⟨[sV 1 R1.length, sV 2 R2.length, sV 3 R3.length], 39, true, 1⟩), (1, (pB R1)), (2, (pB R2)), (3, (pB R3))] := by
  refine ac_in Tryz.func9 (fun w0 W pin => ?_)
  refine aw_p 3 (
    .a 2 4 <| .nil _ _) ?_
  refine aw_p 7 (
    .a 1 5 <| .nil _ _) ?_
  refine aw_sq 14 15 ?_
  refine aw_p 29 (
    .a 3 5 <| .nil _ _) ?_
  refine aw_bl 0 59 ?_
  refine aw_lp 119 ?_
  refine al_round ?_
  refine aw_p 239 (
    .a 1 5 <| .nil _ _) ?_
  refine aw_sq 478 479 ?_
  refine aw_tr 956 ?_
  refine aw_sk ?_
  refine then_normal ?_
  refine aw_sq 958 959 ?_
  refine aw_bl 1 1917 ?_
  refine aw_p 3835 (
    .a 3 5 <| .nil _ _) ?_
  refine aw_p 7671 (
    .a 2 5 <|
    .p (cS #[.tmp 14, .tmp 15] #[39, 28] [sV 1 R1.length, .agg #[.int .i64 px, .int .i64 py]] [1] [(1, (pB R1))] (.int .i64 (Sp.hasF R1 (Sp.lim 1048576 px) (Sp.lim 1048576 py) 0 (-1))) (hasn_own R1 R1.length (rfl) (by first | omega | decide) px py) (.cons rS (.cons rF .nil)) ⟨rfl, bP, trivial⟩ rF) <| .nil _ _) ?_
  refine aw_bl 2 15343 ?_
  refine aw_p 30687 (
    .a 2 5 <| .nil _ _) ?_
  refine aw_cd 61374 61375 ((Sp.hasF R1 (Sp.lim 1048576 px) (Sp.lim 1048576 py) 0 (-1)) == 0) (fun h1 => ?_) (fun h1 => ?_)
  · have h1p : (((Sp.hasF R1 (Sp.lim 1048576 px) (Sp.lim 1048576 py) 0 (-1)) = 0)) := by first | (simpa using h1) | (have h1q := h1; simp at h1q; omega) | (have h1q := bx1 h1; simp at h1q; omega)
    refine aw_p 122749 (
      .a 1 5 <| .nil _ _) ?_
    refine aw_rt ?_
    refine block_ret ?_
    refine block_ret ?_
    refine then_ret ?_
    refine then_ret ?_
    refine block_ret ?_
    refine then_ret ?_
    exact en_ret [.int .i64 0] (show (.int .i64 0 : Value) = (.int .i64 (Sp.ahF [Sp.hasF R1 (Sp.lim 1048576 px) (Sp.lim 1048576 py) 0 (-1), Sp.hasF R2 (Sp.lim 1048576 px) (Sp.lim 1048576 py) 0 (-1), Sp.hasF R3 (Sp.lim 1048576 px) (Sp.lim 1048576 py) 0 (-1)] (-1))) from (congrArg (Value.int .i64) (show 0 = (Sp.ahF [Sp.hasF R1 (Sp.lim 1048576 px) (Sp.lim 1048576 py) 0 (-1), Sp.hasF R2 (Sp.lim 1048576 px) (Sp.lim 1048576 py) 0 (-1), Sp.hasF R3 (Sp.lim 1048576 px) (Sp.lim 1048576 py) 0 (-1)] (-1)) from by (first | exact (Sp.ahF_0 (by assumption)).symm | exact (q3.2).symm | exact (q2.2.trans (Sp.ahF_0 (by assumption))).symm | exact (q1.2.trans (Sp.ahF_0 (by assumption))).symm))))
  · have h1p : ¬ (((Sp.hasF R1 (Sp.lim 1048576 px) (Sp.lim 1048576 py) 0 (-1)) = 0)) := by first | (simpa using h1) | (have h1q := h1; simp at h1q; omega) | (have h1q := bx2 h1; simp at h1q; omega)
    refine aw_p 122751 (
      .a 2 5 <| .nil _ _) ?_
    refine aw_joinB (y := sb Tryz.f9 959) (S1 := fun o1 => mkSt 4 [(3, .pointer (some ⟨4, 0, none⟩)), (5, .int .i64 o1), (8, sV 0 3), (9, .int .i64 3), (10, .int .i64 0)] [(0, ⟨[sV 1 R1.length, sV 2 R2.length, sV 3 R3.length], 39, true, 1⟩), (1, (pB R1)), (2, (pB R2)), (3, (pB R3)), (4, ⟨[.int .i64 px, .int .i64 py], 28, true, 2⟩)]) (fun o1 => (-1 ≤ o1 ∧ o1 ≤ 1) ∧ Sp.ahF [Sp.hasF R1 (Sp.lim 1048576 px) (Sp.lim 1048576 py) 0 (-1), Sp.hasF R2 (Sp.lim 1048576 px) (Sp.lim 1048576 py) 0 (-1), Sp.hasF R3 (Sp.lim 1048576 px) (Sp.lim 1048576 py) 0 (-1)] (-1) = Sp.ahF [Sp.hasF R2 (Sp.lim 1048576 px) (Sp.lim 1048576 py) 0 (-1), Sp.hasF R3 (Sp.lim 1048576 px) (Sp.lim 1048576 py) 0 (-1)] o1) (fun o1 q1 => ?_) (fun K1 => ?_)
    · refine aw_p1 (
        .a 2 5 <| .nil _ _) ?_
      refine then_normal ?_
      refine al_round ?_
      refine aw_p 239 (
        .a 1 5 <| .nil _ _) ?_
      refine aw_sq 478 479 ?_
      refine aw_tr 956 ?_
      refine aw_sk ?_
      refine then_normal ?_
      refine aw_sq 958 959 ?_
      refine aw_bl 1 1917 ?_
      refine aw_p 3835 (
        .a 3 5 <| .nil _ _) ?_
      refine aw_p 7671 (
        .a 2 5 <|
        .p (cS #[.tmp 14, .tmp 15] #[39, 28] [sV 2 R2.length, .agg #[.int .i64 px, .int .i64 py]] [2] [(2, (pB R2))] (.int .i64 (Sp.hasF R2 (Sp.lim 1048576 px) (Sp.lim 1048576 py) 0 (-1))) (hasn_own R2 R2.length (rfl) (by first | omega | decide) px py) (.cons rS (.cons rF .nil)) ⟨rfl, bP, trivial⟩ rF) <| .nil _ _) ?_
      refine aw_bl 2 15343 ?_
      refine aw_p 30687 (
        .a 2 5 <| .nil _ _) ?_
      refine aw_cd 61374 61375 ((Sp.hasF R2 (Sp.lim 1048576 px) (Sp.lim 1048576 py) 0 (-1)) == 0) (fun h2 => ?_) (fun h2 => ?_)
      · have h2p : (((Sp.hasF R2 (Sp.lim 1048576 px) (Sp.lim 1048576 py) 0 (-1)) = 0)) := by first | (simpa using h2) | (have h2q := h2; simp at h2q; omega) | (have h2q := bx1 h2; simp at h2q; omega)
        refine aw_p 122749 (
          .a 1 5 <| .nil _ _) ?_
        refine aw_rt ?_
        refine block_ret ?_
        refine block_ret ?_
        refine then_ret ?_
        refine then_ret ?_
        refine block_ret ?_
        refine then_ret ?_
        exact en_ret [.int .i64 0] (show (.int .i64 0 : Value) = (.int .i64 (Sp.ahF [Sp.hasF R1 (Sp.lim 1048576 px) (Sp.lim 1048576 py) 0 (-1), Sp.hasF R2 (Sp.lim 1048576 px) (Sp.lim 1048576 py) 0 (-1), Sp.hasF R3 (Sp.lim 1048576 px) (Sp.lim 1048576 py) 0 (-1)] (-1))) from (congrArg (Value.int .i64) (show 0 = (Sp.ahF [Sp.hasF R1 (Sp.lim 1048576 px) (Sp.lim 1048576 py) 0 (-1), Sp.hasF R2 (Sp.lim 1048576 px) (Sp.lim 1048576 py) 0 (-1), Sp.hasF R3 (Sp.lim 1048576 px) (Sp.lim 1048576 py) 0 (-1)] (-1)) from by (first | exact (Sp.ahF_0 (by assumption)).symm | exact (q3.2).symm | exact (q2.2.trans (Sp.ahF_0 (by assumption))).symm | exact (q1.2.trans (Sp.ahF_0 (by assumption))).symm))))
      · have h2p : ¬ (((Sp.hasF R2 (Sp.lim 1048576 px) (Sp.lim 1048576 py) 0 (-1)) = 0)) := by first | (simpa using h2) | (have h2q := h2; simp at h2q; omega) | (have h2q := bx2 h2; simp at h2q; omega)
        refine aw_p 122751 (
          .a 2 5 <| .nil _ _) ?_
        refine aw_joinB (y := sb Tryz.f9 959) (S1 := fun o2 => mkSt 4 [(3, .pointer (some ⟨4, 0, none⟩)), (5, .int .i64 o2), (8, sV 0 3), (9, .int .i64 3), (10, .int .i64 1)] [(0, ⟨[sV 1 R1.length, sV 2 R2.length, sV 3 R3.length], 39, true, 1⟩), (1, (pB R1)), (2, (pB R2)), (3, (pB R3)), (4, ⟨[.int .i64 px, .int .i64 py], 28, true, 2⟩)]) (fun o2 => (-1 ≤ o2 ∧ o2 ≤ 1) ∧ Sp.ahF [Sp.hasF R1 (Sp.lim 1048576 px) (Sp.lim 1048576 py) 0 (-1), Sp.hasF R2 (Sp.lim 1048576 px) (Sp.lim 1048576 py) 0 (-1), Sp.hasF R3 (Sp.lim 1048576 px) (Sp.lim 1048576 py) 0 (-1)] (-1) = Sp.ahF [Sp.hasF R3 (Sp.lim 1048576 px) (Sp.lim 1048576 py) 0 (-1)] o2) (fun o2 q2 => ?_) (fun K2 => ?_)
        · refine aw_p1 (
            .a 2 5 <| .nil _ _) ?_
          refine then_normal ?_
          refine al_round ?_
          refine aw_p 239 (
            .a 1 5 <| .nil _ _) ?_
          refine aw_sq 478 479 ?_
          refine aw_tr 956 ?_
          refine aw_sk ?_
          refine then_normal ?_
          refine aw_sq 958 959 ?_
          refine aw_bl 1 1917 ?_
          refine aw_p 3835 (
            .a 3 5 <| .nil _ _) ?_
          refine aw_p 7671 (
            .a 2 5 <|
            .p (cS #[.tmp 14, .tmp 15] #[39, 28] [sV 3 R3.length, .agg #[.int .i64 px, .int .i64 py]] [3] [(3, (pB R3))] (.int .i64 (Sp.hasF R3 (Sp.lim 1048576 px) (Sp.lim 1048576 py) 0 (-1))) (hasn_own R3 R3.length (rfl) (by first | omega | decide) px py) (.cons rS (.cons rF .nil)) ⟨rfl, bP, trivial⟩ rF) <| .nil _ _) ?_
          refine aw_bl 2 15343 ?_
          refine aw_p 30687 (
            .a 2 5 <| .nil _ _) ?_
          refine aw_cd 61374 61375 ((Sp.hasF R3 (Sp.lim 1048576 px) (Sp.lim 1048576 py) 0 (-1)) == 0) (fun h3 => ?_) (fun h3 => ?_)
          · have h3p : (((Sp.hasF R3 (Sp.lim 1048576 px) (Sp.lim 1048576 py) 0 (-1)) = 0)) := by first | (simpa using h3) | (have h3q := h3; simp at h3q; omega) | (have h3q := bx1 h3; simp at h3q; omega)
            refine aw_p 122749 (
              .a 1 5 <| .nil _ _) ?_
            refine aw_rt ?_
            refine block_ret ?_
            refine block_ret ?_
            refine then_ret ?_
            refine then_ret ?_
            refine block_ret ?_
            refine then_ret ?_
            exact en_ret [.int .i64 0] (show (.int .i64 0 : Value) = (.int .i64 (Sp.ahF [Sp.hasF R1 (Sp.lim 1048576 px) (Sp.lim 1048576 py) 0 (-1), Sp.hasF R2 (Sp.lim 1048576 px) (Sp.lim 1048576 py) 0 (-1), Sp.hasF R3 (Sp.lim 1048576 px) (Sp.lim 1048576 py) 0 (-1)] (-1))) from (congrArg (Value.int .i64) (show 0 = (Sp.ahF [Sp.hasF R1 (Sp.lim 1048576 px) (Sp.lim 1048576 py) 0 (-1), Sp.hasF R2 (Sp.lim 1048576 px) (Sp.lim 1048576 py) 0 (-1), Sp.hasF R3 (Sp.lim 1048576 px) (Sp.lim 1048576 py) 0 (-1)] (-1)) from by (first | exact (Sp.ahF_0 (by assumption)).symm | exact (q3.2).symm | exact (q2.2.trans (Sp.ahF_0 (by assumption))).symm | exact (q1.2.trans (Sp.ahF_0 (by assumption))).symm))))
          · have h3p : ¬ (((Sp.hasF R3 (Sp.lim 1048576 px) (Sp.lim 1048576 py) 0 (-1)) = 0)) := by first | (simpa using h3) | (have h3q := h3; simp at h3q; omega) | (have h3q := bx2 h3; simp at h3q; omega)
            refine aw_p 122751 (
              .a 2 5 <| .nil _ _) ?_
            refine aw_joinB (y := sb Tryz.f9 959) (S1 := fun o3 => mkSt 4 [(3, .pointer (some ⟨4, 0, none⟩)), (5, .int .i64 o3), (8, sV 0 3), (9, .int .i64 3), (10, .int .i64 2)] [(0, ⟨[sV 1 R1.length, sV 2 R2.length, sV 3 R3.length], 39, true, 1⟩), (1, (pB R1)), (2, (pB R2)), (3, (pB R3)), (4, ⟨[.int .i64 px, .int .i64 py], 28, true, 2⟩)]) (fun o3 => (-1 ≤ o3 ∧ o3 ≤ 1) ∧ Sp.ahF [Sp.hasF R1 (Sp.lim 1048576 px) (Sp.lim 1048576 py) 0 (-1), Sp.hasF R2 (Sp.lim 1048576 px) (Sp.lim 1048576 py) 0 (-1), Sp.hasF R3 (Sp.lim 1048576 px) (Sp.lim 1048576 py) 0 (-1)] (-1) = Sp.ahF [] o3) (fun o3 q3 => ?_) (fun K3 => ?_)
            · refine aw_p1 (
                .a 2 5 <| .nil _ _) ?_
              refine then_normal ?_
              refine al_round ?_
              refine aw_p 239 (
                .a 1 5 <| .nil _ _) ?_
              refine aw_sq 478 479 ?_
              refine aw_fl 957 ?_
              refine aw_ex 0 ?_
              refine then_exit ?_
              refine then_exit ?_
              refine block_exit ?_
              refine then_normal ?_
              refine aw_p 31 (
                .a 2 5 <| .nil _ _) ?_
              refine aw_rt ?_
              exact en_ret [.int .i64 o3] (show (.int .i64 o3 : Value) = (.int .i64 (Sp.ahF [Sp.hasF R1 (Sp.lim 1048576 px) (Sp.lim 1048576 py) 0 (-1), Sp.hasF R2 (Sp.lim 1048576 px) (Sp.lim 1048576 py) 0 (-1), Sp.hasF R3 (Sp.lim 1048576 px) (Sp.lim 1048576 py) 0 (-1)] (-1))) from (congrArg (Value.int .i64) (show o3 = (Sp.ahF [Sp.hasF R1 (Sp.lim 1048576 px) (Sp.lim 1048576 py) 0 (-1), Sp.hasF R2 (Sp.lim 1048576 px) (Sp.lim 1048576 py) 0 (-1), Sp.hasF R3 (Sp.lim 1048576 px) (Sp.lim 1048576 py) 0 (-1)] (-1)) from by (first | exact (Sp.ahF_0 (by assumption)).symm | exact (q3.2).symm | exact (q2.2.trans (Sp.ahF_0 (by assumption))).symm | exact (q1.2.trans (Sp.ahF_0 (by assumption))).symm))))
            · refine aw_cd 245502 245503 ((Sp.hasF R3 (Sp.lim 1048576 px) (Sp.lim 1048576 py) 0 (-1)) == 1) (fun h4 => ?_) (fun h4 => ?_)
              · have h4p : (((Sp.hasF R3 (Sp.lim 1048576 px) (Sp.lim 1048576 py) 0 (-1)) = 1)) := by first | (simpa using h4) | (have h4q := h4; simp at h4q; omega) | (have h4q := bx1 h4; simp at h4q; omega)
                refine aw_p1 (
                  .a 1 5 <| .p (does_i (0 - o2) (wrap_i64 (by omega) (by omega)) .i64) <| .a 1 5 <| .nil _ _) ?_
                refine block_normal ?_
                refine block_normal ?_
                refine then_normal ?_
                refine aw_w [(3, .pointer (some ⟨4, 0, none⟩)), (5, .int .i64 (0 - o2)), (8, sV 0 3), (9, .int .i64 3), (10, .int .i64 2)] [(0, ⟨[sV 1 R1.length, sV 2 R2.length, sV 3 R3.length], 39, true, 1⟩), (1, (pB R1)), (2, (pB R2)), (3, (pB R3)), (4, ⟨[.int .i64 px, .int .i64 py], 28, true, 2⟩)] ?_ (hc := (by simp [closedB, valsB, valB, List.all_eq_true, List.mem_flatMap, List.mem_range, List.mem_map, i64v, ptc, flat1]; try (intros; simp [valsB, valB, flat1]); try decide))
                exact K3 (0 - o2) ⟨(by omega), q2.2.trans (Sp.ahF_1 h4p)⟩
              · have h4p : ¬ (((Sp.hasF R3 (Sp.lim 1048576 px) (Sp.lim 1048576 py) 0 (-1)) = 1)) := by first | (simpa using h4) | (have h4q := h4; simp at h4q; omega) | (have h4q := bx2 h4; simp at h4q; omega)
                refine aw_sk ?_
                refine block_normal ?_
                refine block_normal ?_
                refine then_normal ?_
                refine aw_w [(3, .pointer (some ⟨4, 0, none⟩)), (5, .int .i64 o2), (8, sV 0 3), (9, .int .i64 3), (10, .int .i64 2)] [(0, ⟨[sV 1 R1.length, sV 2 R2.length, sV 3 R3.length], 39, true, 1⟩), (1, (pB R1)), (2, (pB R2)), (3, (pB R3)), (4, ⟨[.int .i64 px, .int .i64 py], 28, true, 2⟩)] ?_ (hc := (by simp [closedB, valsB, valB, List.all_eq_true, List.mem_flatMap, List.mem_range, List.mem_map, i64v, ptc, flat1]; try (intros; simp [valsB, valB, flat1]); try decide))
                exact K3 o2 ⟨(by omega), q2.2.trans (Sp.ahF_n (by assumption) h4p)⟩
        · refine aw_cd 245502 245503 ((Sp.hasF R2 (Sp.lim 1048576 px) (Sp.lim 1048576 py) 0 (-1)) == 1) (fun h5 => ?_) (fun h5 => ?_)
          · have h5p : (((Sp.hasF R2 (Sp.lim 1048576 px) (Sp.lim 1048576 py) 0 (-1)) = 1)) := by first | (simpa using h5) | (have h5q := h5; simp at h5q; omega) | (have h5q := bx1 h5; simp at h5q; omega)
            refine aw_p1 (
              .a 1 5 <| .p (does_i (0 - o1) (wrap_i64 (by omega) (by omega)) .i64) <| .a 1 5 <| .nil _ _) ?_
            refine block_normal ?_
            refine block_normal ?_
            refine then_normal ?_
            refine aw_w [(3, .pointer (some ⟨4, 0, none⟩)), (5, .int .i64 (0 - o1)), (8, sV 0 3), (9, .int .i64 3), (10, .int .i64 1)] [(0, ⟨[sV 1 R1.length, sV 2 R2.length, sV 3 R3.length], 39, true, 1⟩), (1, (pB R1)), (2, (pB R2)), (3, (pB R3)), (4, ⟨[.int .i64 px, .int .i64 py], 28, true, 2⟩)] ?_ (hc := (by simp [closedB, valsB, valB, List.all_eq_true, List.mem_flatMap, List.mem_range, List.mem_map, i64v, ptc, flat1]; try (intros; simp [valsB, valB, flat1]); try decide))
            exact K2 (0 - o1) ⟨(by omega), q1.2.trans (Sp.ahF_1 h5p)⟩
          · have h5p : ¬ (((Sp.hasF R2 (Sp.lim 1048576 px) (Sp.lim 1048576 py) 0 (-1)) = 1)) := by first | (simpa using h5) | (have h5q := h5; simp at h5q; omega) | (have h5q := bx2 h5; simp at h5q; omega)
            refine aw_sk ?_
            refine block_normal ?_
            refine block_normal ?_
            refine then_normal ?_
            refine aw_w [(3, .pointer (some ⟨4, 0, none⟩)), (5, .int .i64 o1), (8, sV 0 3), (9, .int .i64 3), (10, .int .i64 1)] [(0, ⟨[sV 1 R1.length, sV 2 R2.length, sV 3 R3.length], 39, true, 1⟩), (1, (pB R1)), (2, (pB R2)), (3, (pB R3)), (4, ⟨[.int .i64 px, .int .i64 py], 28, true, 2⟩)] ?_ (hc := (by simp [closedB, valsB, valB, List.all_eq_true, List.mem_flatMap, List.mem_range, List.mem_map, i64v, ptc, flat1]; try (intros; simp [valsB, valB, flat1]); try decide))
            exact K2 o1 ⟨(by omega), q1.2.trans (Sp.ahF_n (by assumption) h5p)⟩
    · refine aw_cd 245502 245503 ((Sp.hasF R1 (Sp.lim 1048576 px) (Sp.lim 1048576 py) 0 (-1)) == 1) (fun h6 => ?_) (fun h6 => ?_)
      · have h6p : (((Sp.hasF R1 (Sp.lim 1048576 px) (Sp.lim 1048576 py) 0 (-1)) = 1)) := by first | (simpa using h6) | (have h6q := h6; simp at h6q; omega) | (have h6q := bx1 h6; simp at h6q; omega)
        refine aw_p1 (
          .a 3 5 <| .nil _ _) ?_
        refine block_normal ?_
        refine block_normal ?_
        refine then_normal ?_
        refine aw_w [(3, .pointer (some ⟨4, 0, none⟩)), (5, .int .i64 1), (8, sV 0 3), (9, .int .i64 3), (10, .int .i64 0)] [(0, ⟨[sV 1 R1.length, sV 2 R2.length, sV 3 R3.length], 39, true, 1⟩), (1, (pB R1)), (2, (pB R2)), (3, (pB R3)), (4, ⟨[.int .i64 px, .int .i64 py], 28, true, 2⟩)] ?_ (hc := (by simp [closedB, valsB, valB, List.all_eq_true, List.mem_flatMap, List.mem_range, List.mem_map, i64v, ptc, flat1]; try (intros; simp [valsB, valB, flat1]); try decide))
        exact K1 1 ⟨(by omega), Sp.ahF_1 h6p⟩
      · have h6p : ¬ (((Sp.hasF R1 (Sp.lim 1048576 px) (Sp.lim 1048576 py) 0 (-1)) = 1)) := by first | (simpa using h6) | (have h6q := h6; simp at h6q; omega) | (have h6q := bx2 h6; simp at h6q; omega)
        refine aw_sk ?_
        refine block_normal ?_
        refine block_normal ?_
        refine then_normal ?_
        refine aw_w [(3, .pointer (some ⟨4, 0, none⟩)), (5, .int .i64 (-1)), (8, sV 0 3), (9, .int .i64 3), (10, .int .i64 0)] [(0, ⟨[sV 1 R1.length, sV 2 R2.length, sV 3 R3.length], 39, true, 1⟩), (1, (pB R1)), (2, (pB R2)), (3, (pB R3)), (4, ⟨[.int .i64 px, .int .i64 py], 28, true, 2⟩)] ?_ (hc := (by simp [closedB, valsB, valB, List.all_eq_true, List.mem_flatMap, List.mem_range, List.mem_map, i64v, ptc, flat1]; try (intros; simp [valsB, valB, flat1]); try decide))
        exact K1 (-1) ⟨(by omega), Sp.ahF_n (by assumption) h6p⟩
theorem ahas_4 (R1 R2 R3 R4 : List (Int × Int)) (zR1 : 1 ≤ R1.length ∧ R1.length ≤ 200) (fR1 : Sp.Few 1000 R1) (zR2 : 1 ≤ R2.length ∧ R2.length ≤ 200) (fR2 : Sp.Few 1000 R2) (zR3 : 1 ≤ R3.length ∧ R3.length ≤ 200) (fR3 : Sp.Few 1000 R3) (zR4 : 1 ≤ R4.length ∧ R4.length ≤ 200) (fR4 : Sp.Few 1000 R4) (px py : Int) :
    AC Tryz.prog 9 5 ([sV 0 4, .agg #[.int .i64 px, .int .i64 py]]) [(0, ⟨[sV 1 R1.length, sV 2 R2.length, sV 3 R3.length, sV 4 R4.length], 39, true, 1⟩), (1, (pB R1)), (2, (pB R2)), (3, (pB R3)), (4, (pB R4))] (.int .i64 (Sp.ahF [Sp.hasF R1 (Sp.lim 1048576 px) (Sp.lim 1048576 py) 0 (-1), Sp.hasF R2 (Sp.lim 1048576 px) (Sp.lim 1048576 py) 0 (-1), Sp.hasF R3 (Sp.lim 1048576 px) (Sp.lim 1048576 py) 0 (-1), Sp.hasF R4 (Sp.lim 1048576 px) (Sp.lim 1048576 py) 0 (-1)] (-1))) [(0, ⟨[sV 1 R1.length, sV 2 R2.length, sV 3 R3.length, sV 4 R4.length], 39, true, 1⟩), (1, (pB R1)), (2, (pB R2)), (3, (pB R3)), (4, (pB R4))] := by
  refine ac_in Tryz.func9 (fun w0 W pin => ?_)
  refine aw_p 3 (
    .a 2 5 <| .nil _ _) ?_
  refine aw_p 7 (
    .a 1 6 <| .nil _ _) ?_
  refine aw_sq 14 15 ?_
  refine aw_p 29 (
    .a 3 6 <| .nil _ _) ?_
  refine aw_bl 0 59 ?_
  refine aw_lp 119 ?_
  refine al_round ?_
  refine aw_p 239 (
    .a 1 6 <| .nil _ _) ?_
  refine aw_sq 478 479 ?_
  refine aw_tr 956 ?_
  refine aw_sk ?_
  refine then_normal ?_
  refine aw_sq 958 959 ?_
  refine aw_bl 1 1917 ?_
  refine aw_p 3835 (
    .a 3 6 <| .nil _ _) ?_
  refine aw_p 7671 (
    .a 2 6 <|
    .p (cS #[.tmp 14, .tmp 15] #[39, 28] [sV 1 R1.length, .agg #[.int .i64 px, .int .i64 py]] [1] [(1, (pB R1))] (.int .i64 (Sp.hasF R1 (Sp.lim 1048576 px) (Sp.lim 1048576 py) 0 (-1))) (hasn_own R1 R1.length (rfl) (by first | omega | decide) px py) (.cons rS (.cons rF .nil)) ⟨rfl, bP, trivial⟩ rF) <| .nil _ _) ?_
  refine aw_bl 2 15343 ?_
  refine aw_p 30687 (
    .a 2 6 <| .nil _ _) ?_
  refine aw_cd 61374 61375 ((Sp.hasF R1 (Sp.lim 1048576 px) (Sp.lim 1048576 py) 0 (-1)) == 0) (fun h1 => ?_) (fun h1 => ?_)
  · have h1p : (((Sp.hasF R1 (Sp.lim 1048576 px) (Sp.lim 1048576 py) 0 (-1)) = 0)) := by first | (simpa using h1) | (have h1q := h1; simp at h1q; omega) | (have h1q := bx1 h1; simp at h1q; omega)
    refine aw_p 122749 (
      .a 1 6 <| .nil _ _) ?_
    refine aw_rt ?_
    refine block_ret ?_
    refine block_ret ?_
    refine then_ret ?_
    refine then_ret ?_
    refine block_ret ?_
    refine then_ret ?_
    exact en_ret [.int .i64 0] (show (.int .i64 0 : Value) = (.int .i64 (Sp.ahF [Sp.hasF R1 (Sp.lim 1048576 px) (Sp.lim 1048576 py) 0 (-1), Sp.hasF R2 (Sp.lim 1048576 px) (Sp.lim 1048576 py) 0 (-1), Sp.hasF R3 (Sp.lim 1048576 px) (Sp.lim 1048576 py) 0 (-1), Sp.hasF R4 (Sp.lim 1048576 px) (Sp.lim 1048576 py) 0 (-1)] (-1))) from (congrArg (Value.int .i64) (show 0 = (Sp.ahF [Sp.hasF R1 (Sp.lim 1048576 px) (Sp.lim 1048576 py) 0 (-1), Sp.hasF R2 (Sp.lim 1048576 px) (Sp.lim 1048576 py) 0 (-1), Sp.hasF R3 (Sp.lim 1048576 px) (Sp.lim 1048576 py) 0 (-1), Sp.hasF R4 (Sp.lim 1048576 px) (Sp.lim 1048576 py) 0 (-1)] (-1)) from by (first | exact (Sp.ahF_0 (by assumption)).symm | exact (q4.2).symm | exact (q3.2.trans (Sp.ahF_0 (by assumption))).symm | exact (q2.2.trans (Sp.ahF_0 (by assumption))).symm | exact (q1.2.trans (Sp.ahF_0 (by assumption))).symm))))
  · have h1p : ¬ (((Sp.hasF R1 (Sp.lim 1048576 px) (Sp.lim 1048576 py) 0 (-1)) = 0)) := by first | (simpa using h1) | (have h1q := h1; simp at h1q; omega) | (have h1q := bx2 h1; simp at h1q; omega)
    refine aw_p 122751 (
      .a 2 6 <| .nil _ _) ?_
    refine aw_joinB (y := sb Tryz.f9 959) (S1 := fun o1 => mkSt 5 [(3, .pointer (some ⟨5, 0, none⟩)), (5, .int .i64 o1), (8, sV 0 4), (9, .int .i64 4), (10, .int .i64 0)] [(0, ⟨[sV 1 R1.length, sV 2 R2.length, sV 3 R3.length, sV 4 R4.length], 39, true, 1⟩), (1, (pB R1)), (2, (pB R2)), (3, (pB R3)), (4, (pB R4)), (5, ⟨[.int .i64 px, .int .i64 py], 28, true, 2⟩)]) (fun o1 => (-1 ≤ o1 ∧ o1 ≤ 1) ∧ Sp.ahF [Sp.hasF R1 (Sp.lim 1048576 px) (Sp.lim 1048576 py) 0 (-1), Sp.hasF R2 (Sp.lim 1048576 px) (Sp.lim 1048576 py) 0 (-1), Sp.hasF R3 (Sp.lim 1048576 px) (Sp.lim 1048576 py) 0 (-1), Sp.hasF R4 (Sp.lim 1048576 px) (Sp.lim 1048576 py) 0 (-1)] (-1) = Sp.ahF [Sp.hasF R2 (Sp.lim 1048576 px) (Sp.lim 1048576 py) 0 (-1), Sp.hasF R3 (Sp.lim 1048576 px) (Sp.lim 1048576 py) 0 (-1), Sp.hasF R4 (Sp.lim 1048576 px) (Sp.lim 1048576 py) 0 (-1)] o1) (fun o1 q1 => ?_) (fun K1 => ?_)
    · refine aw_p1 (
        .a 2 6 <| .nil _ _) ?_
      refine then_normal ?_
      refine al_round ?_
      refine aw_p 239 (
        .a 1 6 <| .nil _ _) ?_
      refine aw_sq 478 479 ?_
      refine aw_tr 956 ?_
      refine aw_sk ?_
      refine then_normal ?_
      refine aw_sq 958 959 ?_
      refine aw_bl 1 1917 ?_
      refine aw_p 3835 (
        .a 3 6 <| .nil _ _) ?_
      refine aw_p 7671 (
        .a 2 6 <|
        .p (cS #[.tmp 14, .tmp 15] #[39, 28] [sV 2 R2.length, .agg #[.int .i64 px, .int .i64 py]] [2] [(2, (pB R2))] (.int .i64 (Sp.hasF R2 (Sp.lim 1048576 px) (Sp.lim 1048576 py) 0 (-1))) (hasn_own R2 R2.length (rfl) (by first | omega | decide) px py) (.cons rS (.cons rF .nil)) ⟨rfl, bP, trivial⟩ rF) <| .nil _ _) ?_
      refine aw_bl 2 15343 ?_
      refine aw_p 30687 (
        .a 2 6 <| .nil _ _) ?_
      refine aw_cd 61374 61375 ((Sp.hasF R2 (Sp.lim 1048576 px) (Sp.lim 1048576 py) 0 (-1)) == 0) (fun h2 => ?_) (fun h2 => ?_)
      · have h2p : (((Sp.hasF R2 (Sp.lim 1048576 px) (Sp.lim 1048576 py) 0 (-1)) = 0)) := by first | (simpa using h2) | (have h2q := h2; simp at h2q; omega) | (have h2q := bx1 h2; simp at h2q; omega)
        refine aw_p 122749 (
          .a 1 6 <| .nil _ _) ?_
        refine aw_rt ?_
        refine block_ret ?_
        refine block_ret ?_
        refine then_ret ?_
        refine then_ret ?_
        refine block_ret ?_
        refine then_ret ?_
        exact en_ret [.int .i64 0] (show (.int .i64 0 : Value) = (.int .i64 (Sp.ahF [Sp.hasF R1 (Sp.lim 1048576 px) (Sp.lim 1048576 py) 0 (-1), Sp.hasF R2 (Sp.lim 1048576 px) (Sp.lim 1048576 py) 0 (-1), Sp.hasF R3 (Sp.lim 1048576 px) (Sp.lim 1048576 py) 0 (-1), Sp.hasF R4 (Sp.lim 1048576 px) (Sp.lim 1048576 py) 0 (-1)] (-1))) from (congrArg (Value.int .i64) (show 0 = (Sp.ahF [Sp.hasF R1 (Sp.lim 1048576 px) (Sp.lim 1048576 py) 0 (-1), Sp.hasF R2 (Sp.lim 1048576 px) (Sp.lim 1048576 py) 0 (-1), Sp.hasF R3 (Sp.lim 1048576 px) (Sp.lim 1048576 py) 0 (-1), Sp.hasF R4 (Sp.lim 1048576 px) (Sp.lim 1048576 py) 0 (-1)] (-1)) from by (first | exact (Sp.ahF_0 (by assumption)).symm | exact (q4.2).symm | exact (q3.2.trans (Sp.ahF_0 (by assumption))).symm | exact (q2.2.trans (Sp.ahF_0 (by assumption))).symm | exact (q1.2.trans (Sp.ahF_0 (by assumption))).symm))))
      · have h2p : ¬ (((Sp.hasF R2 (Sp.lim 1048576 px) (Sp.lim 1048576 py) 0 (-1)) = 0)) := by first | (simpa using h2) | (have h2q := h2; simp at h2q; omega) | (have h2q := bx2 h2; simp at h2q; omega)
        refine aw_p 122751 (
          .a 2 6 <| .nil _ _) ?_
        refine aw_joinB (y := sb Tryz.f9 959) (S1 := fun o2 => mkSt 5 [(3, .pointer (some ⟨5, 0, none⟩)), (5, .int .i64 o2), (8, sV 0 4), (9, .int .i64 4), (10, .int .i64 1)] [(0, ⟨[sV 1 R1.length, sV 2 R2.length, sV 3 R3.length, sV 4 R4.length], 39, true, 1⟩), (1, (pB R1)), (2, (pB R2)), (3, (pB R3)), (4, (pB R4)), (5, ⟨[.int .i64 px, .int .i64 py], 28, true, 2⟩)]) (fun o2 => (-1 ≤ o2 ∧ o2 ≤ 1) ∧ Sp.ahF [Sp.hasF R1 (Sp.lim 1048576 px) (Sp.lim 1048576 py) 0 (-1), Sp.hasF R2 (Sp.lim 1048576 px) (Sp.lim 1048576 py) 0 (-1), Sp.hasF R3 (Sp.lim 1048576 px) (Sp.lim 1048576 py) 0 (-1), Sp.hasF R4 (Sp.lim 1048576 px) (Sp.lim 1048576 py) 0 (-1)] (-1) = Sp.ahF [Sp.hasF R3 (Sp.lim 1048576 px) (Sp.lim 1048576 py) 0 (-1), Sp.hasF R4 (Sp.lim 1048576 px) (Sp.lim 1048576 py) 0 (-1)] o2) (fun o2 q2 => ?_) (fun K2 => ?_)
        · refine aw_p1 (
            .a 2 6 <| .nil _ _) ?_
          refine then_normal ?_
          refine al_round ?_
          refine aw_p 239 (
            .a 1 6 <| .nil _ _) ?_
          refine aw_sq 478 479 ?_
          refine aw_tr 956 ?_
          refine aw_sk ?_
          refine then_normal ?_
          refine aw_sq 958 959 ?_
          refine aw_bl 1 1917 ?_
          refine aw_p 3835 (
            .a 3 6 <| .nil _ _) ?_
          refine aw_p 7671 (
            .a 2 6 <|
            .p (cS #[.tmp 14, .tmp 15] #[39, 28] [sV 3 R3.length, .agg #[.int .i64 px, .int .i64 py]] [3] [(3, (pB R3))] (.int .i64 (Sp.hasF R3 (Sp.lim 1048576 px) (Sp.lim 1048576 py) 0 (-1))) (hasn_own R3 R3.length (rfl) (by first | omega | decide) px py) (.cons rS (.cons rF .nil)) ⟨rfl, bP, trivial⟩ rF) <| .nil _ _) ?_
          refine aw_bl 2 15343 ?_
          refine aw_p 30687 (
            .a 2 6 <| .nil _ _) ?_
          refine aw_cd 61374 61375 ((Sp.hasF R3 (Sp.lim 1048576 px) (Sp.lim 1048576 py) 0 (-1)) == 0) (fun h3 => ?_) (fun h3 => ?_)
          · have h3p : (((Sp.hasF R3 (Sp.lim 1048576 px) (Sp.lim 1048576 py) 0 (-1)) = 0)) := by first | (simpa using h3) | (have h3q := h3; simp at h3q; omega) | (have h3q := bx1 h3; simp at h3q; omega)
            refine aw_p 122749 (
              .a 1 6 <| .nil _ _) ?_
            refine aw_rt ?_
            refine block_ret ?_
            refine block_ret ?_
            refine then_ret ?_
            refine then_ret ?_
            refine block_ret ?_
            refine then_ret ?_
            exact en_ret [.int .i64 0] (show (.int .i64 0 : Value) = (.int .i64 (Sp.ahF [Sp.hasF R1 (Sp.lim 1048576 px) (Sp.lim 1048576 py) 0 (-1), Sp.hasF R2 (Sp.lim 1048576 px) (Sp.lim 1048576 py) 0 (-1), Sp.hasF R3 (Sp.lim 1048576 px) (Sp.lim 1048576 py) 0 (-1), Sp.hasF R4 (Sp.lim 1048576 px) (Sp.lim 1048576 py) 0 (-1)] (-1))) from (congrArg (Value.int .i64) (show 0 = (Sp.ahF [Sp.hasF R1 (Sp.lim 1048576 px) (Sp.lim 1048576 py) 0 (-1), Sp.hasF R2 (Sp.lim 1048576 px) (Sp.lim 1048576 py) 0 (-1), Sp.hasF R3 (Sp.lim 1048576 px) (Sp.lim 1048576 py) 0 (-1), Sp.hasF R4 (Sp.lim 1048576 px) (Sp.lim 1048576 py) 0 (-1)] (-1)) from by (first | exact (Sp.ahF_0 (by assumption)).symm | exact (q4.2).symm | exact (q3.2.trans (Sp.ahF_0 (by assumption))).symm | exact (q2.2.trans (Sp.ahF_0 (by assumption))).symm | exact (q1.2.trans (Sp.ahF_0 (by assumption))).symm))))
          · have h3p : ¬ (((Sp.hasF R3 (Sp.lim 1048576 px) (Sp.lim 1048576 py) 0 (-1)) = 0)) := by first | (simpa using h3) | (have h3q := h3; simp at h3q; omega) | (have h3q := bx2 h3; simp at h3q; omega)
            refine aw_p 122751 (
              .a 2 6 <| .nil _ _) ?_
            refine aw_joinB (y := sb Tryz.f9 959) (S1 := fun o3 => mkSt 5 [(3, .pointer (some ⟨5, 0, none⟩)), (5, .int .i64 o3), (8, sV 0 4), (9, .int .i64 4), (10, .int .i64 2)] [(0, ⟨[sV 1 R1.length, sV 2 R2.length, sV 3 R3.length, sV 4 R4.length], 39, true, 1⟩), (1, (pB R1)), (2, (pB R2)), (3, (pB R3)), (4, (pB R4)), (5, ⟨[.int .i64 px, .int .i64 py], 28, true, 2⟩)]) (fun o3 => (-1 ≤ o3 ∧ o3 ≤ 1) ∧ Sp.ahF [Sp.hasF R1 (Sp.lim 1048576 px) (Sp.lim 1048576 py) 0 (-1), Sp.hasF R2 (Sp.lim 1048576 px) (Sp.lim 1048576 py) 0 (-1), Sp.hasF R3 (Sp.lim 1048576 px) (Sp.lim 1048576 py) 0 (-1), Sp.hasF R4 (Sp.lim 1048576 px) (Sp.lim 1048576 py) 0 (-1)] (-1) = Sp.ahF [Sp.hasF R4 (Sp.lim 1048576 px) (Sp.lim 1048576 py) 0 (-1)] o3) (fun o3 q3 => ?_) (fun K3 => ?_)
            · refine aw_p1 (
                .a 2 6 <| .nil _ _) ?_
              refine then_normal ?_
              refine al_round ?_
              refine aw_p 239 (
                .a 1 6 <| .nil _ _) ?_
              refine aw_sq 478 479 ?_
              refine aw_tr 956 ?_
              refine aw_sk ?_
              refine then_normal ?_
              refine aw_sq 958 959 ?_
              refine aw_bl 1 1917 ?_
              refine aw_p 3835 (
                .a 3 6 <| .nil _ _) ?_
              refine aw_p 7671 (
                .a 2 6 <|
                .p (cS #[.tmp 14, .tmp 15] #[39, 28] [sV 4 R4.length, .agg #[.int .i64 px, .int .i64 py]] [4] [(4, (pB R4))] (.int .i64 (Sp.hasF R4 (Sp.lim 1048576 px) (Sp.lim 1048576 py) 0 (-1))) (hasn_own R4 R4.length (rfl) (by first | omega | decide) px py) (.cons rS (.cons rF .nil)) ⟨rfl, bP, trivial⟩ rF) <| .nil _ _) ?_
              refine aw_bl 2 15343 ?_
              refine aw_p 30687 (
                .a 2 6 <| .nil _ _) ?_
              refine aw_cd 61374 61375 ((Sp.hasF R4 (Sp.lim 1048576 px) (Sp.lim 1048576 py) 0 (-1)) == 0) (fun h4 => ?_) (fun h4 => ?_)
              · have h4p : (((Sp.hasF R4 (Sp.lim 1048576 px) (Sp.lim 1048576 py) 0 (-1)) = 0)) := by first | (simpa using h4) | (have h4q := h4; simp at h4q; omega) | (have h4q := bx1 h4; simp at h4q; omega)
                refine aw_p 122749 (
                  .a 1 6 <| .nil _ _) ?_
                refine aw_rt ?_
                refine block_ret ?_
                refine block_ret ?_
                refine then_ret ?_
                refine then_ret ?_
                refine block_ret ?_
                refine then_ret ?_
                exact en_ret [.int .i64 0] (show (.int .i64 0 : Value) = (.int .i64 (Sp.ahF [Sp.hasF R1 (Sp.lim 1048576 px) (Sp.lim 1048576 py) 0 (-1), Sp.hasF R2 (Sp.lim 1048576 px) (Sp.lim 1048576 py) 0 (-1), Sp.hasF R3 (Sp.lim 1048576 px) (Sp.lim 1048576 py) 0 (-1), Sp.hasF R4 (Sp.lim 1048576 px) (Sp.lim 1048576 py) 0 (-1)] (-1))) from (congrArg (Value.int .i64) (show 0 = (Sp.ahF [Sp.hasF R1 (Sp.lim 1048576 px) (Sp.lim 1048576 py) 0 (-1), Sp.hasF R2 (Sp.lim 1048576 px) (Sp.lim 1048576 py) 0 (-1), Sp.hasF R3 (Sp.lim 1048576 px) (Sp.lim 1048576 py) 0 (-1), Sp.hasF R4 (Sp.lim 1048576 px) (Sp.lim 1048576 py) 0 (-1)] (-1)) from by (first | exact (Sp.ahF_0 (by assumption)).symm | exact (q4.2).symm | exact (q3.2.trans (Sp.ahF_0 (by assumption))).symm | exact (q2.2.trans (Sp.ahF_0 (by assumption))).symm | exact (q1.2.trans (Sp.ahF_0 (by assumption))).symm))))
              · have h4p : ¬ (((Sp.hasF R4 (Sp.lim 1048576 px) (Sp.lim 1048576 py) 0 (-1)) = 0)) := by first | (simpa using h4) | (have h4q := h4; simp at h4q; omega) | (have h4q := bx2 h4; simp at h4q; omega)
                refine aw_p 122751 (
                  .a 2 6 <| .nil _ _) ?_
                refine aw_joinB (y := sb Tryz.f9 959) (S1 := fun o4 => mkSt 5 [(3, .pointer (some ⟨5, 0, none⟩)), (5, .int .i64 o4), (8, sV 0 4), (9, .int .i64 4), (10, .int .i64 3)] [(0, ⟨[sV 1 R1.length, sV 2 R2.length, sV 3 R3.length, sV 4 R4.length], 39, true, 1⟩), (1, (pB R1)), (2, (pB R2)), (3, (pB R3)), (4, (pB R4)), (5, ⟨[.int .i64 px, .int .i64 py], 28, true, 2⟩)]) (fun o4 => (-1 ≤ o4 ∧ o4 ≤ 1) ∧ Sp.ahF [Sp.hasF R1 (Sp.lim 1048576 px) (Sp.lim 1048576 py) 0 (-1), Sp.hasF R2 (Sp.lim 1048576 px) (Sp.lim 1048576 py) 0 (-1), Sp.hasF R3 (Sp.lim 1048576 px) (Sp.lim 1048576 py) 0 (-1), Sp.hasF R4 (Sp.lim 1048576 px) (Sp.lim 1048576 py) 0 (-1)] (-1) = Sp.ahF [] o4) (fun o4 q4 => ?_) (fun K4 => ?_)
                · refine aw_p1 (
                    .a 2 6 <| .nil _ _) ?_
                  refine then_normal ?_
                  refine al_round ?_
                  refine aw_p 239 (
                    .a 1 6 <| .nil _ _) ?_
                  refine aw_sq 478 479 ?_
                  refine aw_fl 957 ?_
                  refine aw_ex 0 ?_
                  refine then_exit ?_
                  refine then_exit ?_
                  refine block_exit ?_
                  refine then_normal ?_
                  refine aw_p 31 (
                    .a 2 6 <| .nil _ _) ?_
                  refine aw_rt ?_
                  exact en_ret [.int .i64 o4] (show (.int .i64 o4 : Value) = (.int .i64 (Sp.ahF [Sp.hasF R1 (Sp.lim 1048576 px) (Sp.lim 1048576 py) 0 (-1), Sp.hasF R2 (Sp.lim 1048576 px) (Sp.lim 1048576 py) 0 (-1), Sp.hasF R3 (Sp.lim 1048576 px) (Sp.lim 1048576 py) 0 (-1), Sp.hasF R4 (Sp.lim 1048576 px) (Sp.lim 1048576 py) 0 (-1)] (-1))) from (congrArg (Value.int .i64) (show o4 = (Sp.ahF [Sp.hasF R1 (Sp.lim 1048576 px) (Sp.lim 1048576 py) 0 (-1), Sp.hasF R2 (Sp.lim 1048576 px) (Sp.lim 1048576 py) 0 (-1), Sp.hasF R3 (Sp.lim 1048576 px) (Sp.lim 1048576 py) 0 (-1), Sp.hasF R4 (Sp.lim 1048576 px) (Sp.lim 1048576 py) 0 (-1)] (-1)) from by (first | exact (Sp.ahF_0 (by assumption)).symm | exact (q4.2).symm | exact (q3.2.trans (Sp.ahF_0 (by assumption))).symm | exact (q2.2.trans (Sp.ahF_0 (by assumption))).symm | exact (q1.2.trans (Sp.ahF_0 (by assumption))).symm))))
                · refine aw_cd 245502 245503 ((Sp.hasF R4 (Sp.lim 1048576 px) (Sp.lim 1048576 py) 0 (-1)) == 1) (fun h5 => ?_) (fun h5 => ?_)
                  · have h5p : (((Sp.hasF R4 (Sp.lim 1048576 px) (Sp.lim 1048576 py) 0 (-1)) = 1)) := by first | (simpa using h5) | (have h5q := h5; simp at h5q; omega) | (have h5q := bx1 h5; simp at h5q; omega)
                    refine aw_p1 (
                      .a 1 6 <| .p (does_i (0 - o3) (wrap_i64 (by omega) (by omega)) .i64) <| .a 1 6 <| .nil _ _) ?_
                    refine block_normal ?_
                    refine block_normal ?_
                    refine then_normal ?_
                    refine aw_w [(3, .pointer (some ⟨5, 0, none⟩)), (5, .int .i64 (0 - o3)), (8, sV 0 4), (9, .int .i64 4), (10, .int .i64 3)] [(0, ⟨[sV 1 R1.length, sV 2 R2.length, sV 3 R3.length, sV 4 R4.length], 39, true, 1⟩), (1, (pB R1)), (2, (pB R2)), (3, (pB R3)), (4, (pB R4)), (5, ⟨[.int .i64 px, .int .i64 py], 28, true, 2⟩)] ?_ (hc := (by simp [closedB, valsB, valB, List.all_eq_true, List.mem_flatMap, List.mem_range, List.mem_map, i64v, ptc, flat1]; try (intros; simp [valsB, valB, flat1]); try decide))
                    exact K4 (0 - o3) ⟨(by omega), q3.2.trans (Sp.ahF_1 h5p)⟩
                  · have h5p : ¬ (((Sp.hasF R4 (Sp.lim 1048576 px) (Sp.lim 1048576 py) 0 (-1)) = 1)) := by first | (simpa using h5) | (have h5q := h5; simp at h5q; omega) | (have h5q := bx2 h5; simp at h5q; omega)
                    refine aw_sk ?_
                    refine block_normal ?_
                    refine block_normal ?_
                    refine then_normal ?_
                    refine aw_w [(3, .pointer (some ⟨5, 0, none⟩)), (5, .int .i64 o3), (8, sV 0 4), (9, .int .i64 4), (10, .int .i64 3)] [(0, ⟨[sV 1 R1.length, sV 2 R2.length, sV 3 R3.length, sV 4 R4.length], 39, true, 1⟩), (1, (pB R1)), (2, (pB R2)), (3, (pB R3)), (4, (pB R4)), (5, ⟨[.int .i64 px, .int .i64 py], 28, true, 2⟩)] ?_ (hc := (by simp [closedB, valsB, valB, List.all_eq_true, List.mem_flatMap, List.mem_range, List.mem_map, i64v, ptc, flat1]; try (intros; simp [valsB, valB, flat1]); try decide))
                    exact K4 o3 ⟨(by omega), q3.2.trans (Sp.ahF_n (by assumption) h5p)⟩
            · refine aw_cd 245502 245503 ((Sp.hasF R3 (Sp.lim 1048576 px) (Sp.lim 1048576 py) 0 (-1)) == 1) (fun h6 => ?_) (fun h6 => ?_)
              · have h6p : (((Sp.hasF R3 (Sp.lim 1048576 px) (Sp.lim 1048576 py) 0 (-1)) = 1)) := by first | (simpa using h6) | (have h6q := h6; simp at h6q; omega) | (have h6q := bx1 h6; simp at h6q; omega)
                refine aw_p1 (
                  .a 1 6 <| .p (does_i (0 - o2) (wrap_i64 (by omega) (by omega)) .i64) <| .a 1 6 <| .nil _ _) ?_
                refine block_normal ?_
                refine block_normal ?_
                refine then_normal ?_
                refine aw_w [(3, .pointer (some ⟨5, 0, none⟩)), (5, .int .i64 (0 - o2)), (8, sV 0 4), (9, .int .i64 4), (10, .int .i64 2)] [(0, ⟨[sV 1 R1.length, sV 2 R2.length, sV 3 R3.length, sV 4 R4.length], 39, true, 1⟩), (1, (pB R1)), (2, (pB R2)), (3, (pB R3)), (4, (pB R4)), (5, ⟨[.int .i64 px, .int .i64 py], 28, true, 2⟩)] ?_ (hc := (by simp [closedB, valsB, valB, List.all_eq_true, List.mem_flatMap, List.mem_range, List.mem_map, i64v, ptc, flat1]; try (intros; simp [valsB, valB, flat1]); try decide))
                exact K3 (0 - o2) ⟨(by omega), q2.2.trans (Sp.ahF_1 h6p)⟩
              · have h6p : ¬ (((Sp.hasF R3 (Sp.lim 1048576 px) (Sp.lim 1048576 py) 0 (-1)) = 1)) := by first | (simpa using h6) | (have h6q := h6; simp at h6q; omega) | (have h6q := bx2 h6; simp at h6q; omega)
                refine aw_sk ?_
                refine block_normal ?_
                refine block_normal ?_
                refine then_normal ?_
                refine aw_w [(3, .pointer (some ⟨5, 0, none⟩)), (5, .int .i64 o2), (8, sV 0 4), (9, .int .i64 4), (10, .int .i64 2)] [(0, ⟨[sV 1 R1.length, sV 2 R2.length, sV 3 R3.length, sV 4 R4.length], 39, true, 1⟩), (1, (pB R1)), (2, (pB R2)), (3, (pB R3)), (4, (pB R4)), (5, ⟨[.int .i64 px, .int .i64 py], 28, true, 2⟩)] ?_ (hc := (by simp [closedB, valsB, valB, List.all_eq_true, List.mem_flatMap, List.mem_range, List.mem_map, i64v, ptc, flat1]; try (intros; simp [valsB, valB, flat1]); try decide))
                exact K3 o2 ⟨(by omega), q2.2.trans (Sp.ahF_n (by assumption) h6p)⟩
        · refine aw_cd 245502 245503 ((Sp.hasF R2 (Sp.lim 1048576 px) (Sp.lim 1048576 py) 0 (-1)) == 1) (fun h7 => ?_) (fun h7 => ?_)
          · have h7p : (((Sp.hasF R2 (Sp.lim 1048576 px) (Sp.lim 1048576 py) 0 (-1)) = 1)) := by first | (simpa using h7) | (have h7q := h7; simp at h7q; omega) | (have h7q := bx1 h7; simp at h7q; omega)
            refine aw_p1 (
              .a 1 6 <| .p (does_i (0 - o1) (wrap_i64 (by omega) (by omega)) .i64) <| .a 1 6 <| .nil _ _) ?_
            refine block_normal ?_
            refine block_normal ?_
            refine then_normal ?_
            refine aw_w [(3, .pointer (some ⟨5, 0, none⟩)), (5, .int .i64 (0 - o1)), (8, sV 0 4), (9, .int .i64 4), (10, .int .i64 1)] [(0, ⟨[sV 1 R1.length, sV 2 R2.length, sV 3 R3.length, sV 4 R4.length], 39, true, 1⟩), (1, (pB R1)), (2, (pB R2)), (3, (pB R3)), (4, (pB R4)), (5, ⟨[.int .i64 px, .int .i64 py], 28, true, 2⟩)] ?_ (hc := (by simp [closedB, valsB, valB, List.all_eq_true, List.mem_flatMap, List.mem_range, List.mem_map, i64v, ptc, flat1]; try (intros; simp [valsB, valB, flat1]); try decide))
            exact K2 (0 - o1) ⟨(by omega), q1.2.trans (Sp.ahF_1 h7p)⟩
          · have h7p : ¬ (((Sp.hasF R2 (Sp.lim 1048576 px) (Sp.lim 1048576 py) 0 (-1)) = 1)) := by first | (simpa using h7) | (have h7q := h7; simp at h7q; omega) | (have h7q := bx2 h7; simp at h7q; omega)
            refine aw_sk ?_
            refine block_normal ?_
            refine block_normal ?_
            refine then_normal ?_
            refine aw_w [(3, .pointer (some ⟨5, 0, none⟩)), (5, .int .i64 o1), (8, sV 0 4), (9, .int .i64 4), (10, .int .i64 1)] [(0, ⟨[sV 1 R1.length, sV 2 R2.length, sV 3 R3.length, sV 4 R4.length], 39, true, 1⟩), (1, (pB R1)), (2, (pB R2)), (3, (pB R3)), (4, (pB R4)), (5, ⟨[.int .i64 px, .int .i64 py], 28, true, 2⟩)] ?_ (hc := (by simp [closedB, valsB, valB, List.all_eq_true, List.mem_flatMap, List.mem_range, List.mem_map, i64v, ptc, flat1]; try (intros; simp [valsB, valB, flat1]); try decide))
            exact K2 o1 ⟨(by omega), q1.2.trans (Sp.ahF_n (by assumption) h7p)⟩
    · refine aw_cd 245502 245503 ((Sp.hasF R1 (Sp.lim 1048576 px) (Sp.lim 1048576 py) 0 (-1)) == 1) (fun h8 => ?_) (fun h8 => ?_)
      · have h8p : (((Sp.hasF R1 (Sp.lim 1048576 px) (Sp.lim 1048576 py) 0 (-1)) = 1)) := by first | (simpa using h8) | (have h8q := h8; simp at h8q; omega) | (have h8q := bx1 h8; simp at h8q; omega)
        refine aw_p1 (
          .a 3 6 <| .nil _ _) ?_
        refine block_normal ?_
        refine block_normal ?_
        refine then_normal ?_
        refine aw_w [(3, .pointer (some ⟨5, 0, none⟩)), (5, .int .i64 1), (8, sV 0 4), (9, .int .i64 4), (10, .int .i64 0)] [(0, ⟨[sV 1 R1.length, sV 2 R2.length, sV 3 R3.length, sV 4 R4.length], 39, true, 1⟩), (1, (pB R1)), (2, (pB R2)), (3, (pB R3)), (4, (pB R4)), (5, ⟨[.int .i64 px, .int .i64 py], 28, true, 2⟩)] ?_ (hc := (by simp [closedB, valsB, valB, List.all_eq_true, List.mem_flatMap, List.mem_range, List.mem_map, i64v, ptc, flat1]; try (intros; simp [valsB, valB, flat1]); try decide))
        exact K1 1 ⟨(by omega), Sp.ahF_1 h8p⟩
      · have h8p : ¬ (((Sp.hasF R1 (Sp.lim 1048576 px) (Sp.lim 1048576 py) 0 (-1)) = 1)) := by first | (simpa using h8) | (have h8q := h8; simp at h8q; omega) | (have h8q := bx2 h8; simp at h8q; omega)
        refine aw_sk ?_
        refine block_normal ?_
        refine block_normal ?_
        refine then_normal ?_
        refine aw_w [(3, .pointer (some ⟨5, 0, none⟩)), (5, .int .i64 (-1)), (8, sV 0 4), (9, .int .i64 4), (10, .int .i64 0)] [(0, ⟨[sV 1 R1.length, sV 2 R2.length, sV 3 R3.length, sV 4 R4.length], 39, true, 1⟩), (1, (pB R1)), (2, (pB R2)), (3, (pB R3)), (4, (pB R4)), (5, ⟨[.int .i64 px, .int .i64 py], 28, true, 2⟩)] ?_ (hc := (by simp [closedB, valsB, valB, List.all_eq_true, List.mem_flatMap, List.mem_range, List.mem_map, i64v, ptc, flat1]; try (intros; simp [valsB, valB, flat1]); try decide))
        exact K1 (-1) ⟨(by omega), Sp.ahF_n (by assumption) h8p⟩
end Go.Proofs.YtndkhgfecnbmnaaGreat.Am

namespace Go.Proofs.YtndkhgfecnbmnaaGreat.Am
open Go Go.Proofs
set_option maxRecDepth 100000
set_option maxHeartbeats 4000000
set_option linter.unusedVariables false
set_option linter.unusedSimpArgs false
theorem grow0_ok (n : Nat) (hn : 1 ≤ n) (hz : n ≤ 4096) :
    AC Tryz.prog 65 0 ([.slice none 0 0, .int .i64 ((n : Nat) : Int)]) [] (sV 0 0) [(0, ⟨[], 28, true, 2⟩)] := by
  refine ac_in Tryz.func65 (fun w0 W pin => ?_)
  refine aw_p 3 (
    .a 1 0 <| .nil _ _) ?_
  refine aw_sq 6 7 ?_
  refine aw_p 13 (
    .a 1 0 <| .p (does_b false ((show (decide (((n : Nat) : Int) < 0)) = false from decide_eq_false (by omega)))) <| .nil _ _) ?_
  refine aw_fl 27 ?_
  refine aw_sk ?_
  refine then_normal ?_
  refine aw_sq 14 15 ?_
  refine aw_p 29 (
    .a 2 0 <| .p (does_pure (v := .int .i64 0) (by kernel_rfl) (fun w => by kernel_rfl) (by kernel_rfl)) <| .a 3 0 <| .p (does_i ((n : Nat) : Int) ((show (IntKind.wrap .i64 (((n : Nat) : Int) - 0)) = ((n : Nat) : Int) from ((wrap_i64 (by omega) (by omega)).trans (by omega)))) .i64) <| .a 1 0 <| .nil _ _) ?_
  refine aw_p 59 (
    .a 1 0 <| .p (does_b true ((show (decide (((n : Nat) : Int) > 0)) = true from decide_eq_true (by omega)))) <| .nil _ _) ?_
  refine aw_tr 118 ?_
  refine aw_p1 (
    .a 2 0 <| .p (does_pure (v := .int .i64 0) (by kernel_rfl) (fun w => by kernel_rfl) (by kernel_rfl)) <| .p (does_pure (v := .slice none 0 0) (by kernel_rfl) (fun w => by kernel_rfl) (by kernel_rfl)) <| .a 1 0 <|
    .p (does_room 0 28 2 16 n ((n : Nat) : Int) .i64 (by kernel_rfl) (by kernel_rfl) (by omega) (by omega) (by omega) (by omega)) <| .a 2 1 <|
    .p (does_val (v' := sV 0 0) (does_slice (t := 39) (x := .tmp 22) (lo := none) (hi := some (.tmp 24)) (k := 0) (off := 0) (n := n) (c := 0) (z := 2) (l := 0) (h := 0) (m := 0) (b := ⟨[], 28, true, 2⟩) (by kernel_rfl) (by kernel_rfl) (by kernel_rfl) (by kernel_rfl) (by kernel_rfl) (by kernel_rfl) (by kernel_rfl) (by kernel_rfl) (by omega) (by omega) (by omega) (by omega)) (by kernel_rfl)) <|
    .a 1 1 <| .nil _ _) ?_
  refine then_normal ?_
  refine aw_p 31 (
    .a 2 1 <| .nil _ _) ?_
  refine aw_rt ?_
  exact en_ret [sV 0 0] (by kernel_rfl)
theorem grow_ok (n : Nat) (n' : Int) (hn' : n' = ((n : Nat) : Int)) (hn : 1 ≤ n) (hz : n ≤ 4096) : AC Tryz.prog 65 0 [.slice none 0 0, .int .i64 n'] [] (.slice (some ⟨0, 0, none⟩) 0 0) [(0, ⟨[], 28, true, 2⟩)] := by
  subst hn'
  exact grow0_ok n hn hz
end Go.Proofs.YtndkhgfecnbmnaaGreat.Am

namespace Go.Proofs.YtndkhgfecnbmnaaGreat.Am
open Go Go.Proofs
set_option maxRecDepth 100000
set_option maxHeartbeats 4000000
set_option linter.unusedVariables false
set_option linter.unusedSimpArgs false
theorem concat1_ok (R1 : List (Int × Int)) (zR1 : 1 ≤ R1.length ∧ R1.length ≤ 200) (fR1 : Sp.Few 1000 R1) :
    AC Tryz.prog 36 2 ([sV 0 1]) [(0, ⟨[sV 1 R1.length], 39, true, 1⟩), (1, (pB R1))] (sV 2 R1.length) [(0, ⟨[sV 1 R1.length], 39, true, 1⟩), (1, (pB R1)), (2, (pB R1))] := by
  refine ac_in Tryz.func36 (fun w0 W pin => ?_)
  refine aw_p 3 (
    .a 1 2 <| .nil _ _) ?_
  refine aw_p 7 (
    .a 1 2 <| .nil _ _) ?_
  refine aw_sq 14 15 ?_
  refine aw_p 29 (
    .a 3 2 <| .nil _ _) ?_
  refine aw_bl 0 59 ?_
  refine aw_lp 119 ?_
  refine al_round ?_
  refine aw_p 239 (
    .a 1 2 <| .nil _ _) ?_
  refine aw_sq 478 479 ?_
  refine aw_tr 956 ?_
  refine aw_sk ?_
  refine then_normal ?_
  refine aw_sq 958 959 ?_
  refine aw_bl 1 1917 ?_
  refine aw_p 3835 (
    .a 3 2 <| .nil _ _) ?_
  refine aw_p 7671 (
    .a 3 2 <| .p (does_i (0 + ((R1.length : Nat) : Int)) (wrap_i64 (by omega) (by omega)) .i64) <| .a 1 2 <| .nil _ _) ?_
  refine aw_p 15343 (
    .a 1 2 <| .p (does_b false ((show (decide ((0 + ((R1.length : Nat) : Int)) < 0)) = false from decide_eq_false (by omega)))) <| .nil _ _) ?_
  refine aw_fl 30687 ?_
  refine aw_sk ?_
  refine block_normal ?_
  refine then_normal ?_
  refine aw_p1 (
    .a 2 2 <| .nil _ _) ?_
  refine then_normal ?_
  refine al_round ?_
  refine aw_p 239 (
    .a 1 2 <| .nil _ _) ?_
  refine aw_sq 478 479 ?_
  refine aw_fl 957 ?_
  refine aw_ex 0 ?_
  refine then_exit ?_
  refine then_exit ?_
  refine block_exit ?_
  refine then_normal ?_
  refine aw_p 31 (
    .a 1 2 <|
    .p (cF #[.const (.slice none 0 0), .tmp 23] #[39, 3] [.slice none 0 0, .int .i64 (0 + ((R1.length : Nat) : Int))] 1 [2] [] [(2, ⟨[], 28, true, 2⟩)] (sV 2 0) (grow_ok R1.length (0 + ((R1.length : Nat) : Int)) (by omega) (by omega) (by omega)) (.flats (by kernel_rfl)) trivial ⟨rfl, ⟨rfl, rfl, rfl, (.flats (by kernel_rfl))⟩, trivial⟩ rS) <|
    .a 1 3 <| .nil _ _) ?_
  refine aw_sq 62 63 ?_
  refine aw_p 125 (
    .a 3 3 <| .nil _ _) ?_
  refine aw_bl 2 251 ?_
  refine aw_lp 503 ?_
  refine al_round ?_
  refine aw_p 1007 (
    .a 1 3 <| .nil _ _) ?_
  refine aw_sq 2014 2015 ?_
  refine aw_tr 4028 ?_
  refine aw_sk ?_
  refine then_normal ?_
  refine aw_sq 4030 4031 ?_
  refine aw_bl 3 8061 ?_
  refine aw_p 16123 (
    .a 3 3 <| .nil _ _) ?_
  refine aw_p1 (
    .a 2 3 <|
    .p (does_apg R1.length 3 28 2 16 2 0 1 0 R1.length ⟨[], 28, true, 2⟩ (pB R1) (R1.flatMap ptc) (by kernel_rfl) (by kernel_rfl) (by kernel_rfl) (by kernel_rfl) (by kernel_rfl) (plain_pairs _) (by rw [Nat.zero_mul]; exact Nat.zero_le _) (by show _ ≤ (R1.flatMap ptc).length; rw [pairs_length]; omega) (.inl zR1.1) (by omega) (by omega) (by show List.take _ [] ++ ((R1.flatMap ptc).drop _).take _ = _; rw [cut_pairs (j := 0) (k := R1.length) (by omega) (by omega), List.drop_zero, List.take_length, List.take_nil, List.nil_append]) (by omega)) <|
    .a 1 4 <| .nil _ _) ?_
  refine block_normal ?_
  refine then_normal ?_
  refine aw_p1 (
    .a 2 4 <| .nil _ _) ?_
  refine then_normal ?_
  refine al_round ?_
  refine aw_p 1007 (
    .a 1 4 <| .nil _ _) ?_
  refine aw_sq 2014 2015 ?_
  refine aw_fl 4029 ?_
  refine aw_ex 2 ?_
  refine then_exit ?_
  refine then_exit ?_
  refine block_exit ?_
  refine then_normal ?_
  refine aw_p 127 (
    .a 2 4 <| .nil _ _) ?_
  refine aw_r [(2, 3)] [(2, sV 3 R1.length)] [(0, ⟨[sV 1 R1.length], 39, true, 1⟩), (1, (pB R1)), (3, (pB R1))] [(2, sV 2 R1.length)] [(0, ⟨[sV 1 R1.length], 39, true, 1⟩), (1, (pB R1)), (2, (pB R1))] ?_ ⟨rfl, (rK rfl), trivial⟩ ⟨rfl, ⟨rfl, rfl, rfl, (.cons (rK rfl) .nil)⟩, rfl, ⟨rfl, rfl, rfl, (.flats (flats_pair _))⟩, rfl, ⟨rfl, rfl, rfl, (.flats (flats_pair _))⟩, trivial⟩
  refine aw_rt ?_
  exact en_ret [sV 2 R1.length] (by kernel_rfl)
theorem concat2_ok (R1 R2 : List (Int × Int)) (zR1 : 1 ≤ R1.length ∧ R1.length ≤ 200) (fR1 : Sp.Few 1000 R1) (zR2 : 1 ≤ R2.length ∧ R2.length ≤ 200) (fR2 : Sp.Few 1000 R2) :
    AC Tryz.prog 36 3 ([sV 0 2]) [(0, ⟨[sV 1 R1.length, sV 2 R2.length], 39, true, 1⟩), (1, (pB R1)), (2, (pB R2))] (sV 3 (R1.length + R2.length)) [(0, ⟨[sV 1 R1.length, sV 2 R2.length], 39, true, 1⟩), (1, (pB R1)), (2, (pB R2)), (3, (pB (R1 ++ R2)))] := by
  refine ac_in Tryz.func36 (fun w0 W pin => ?_)
  refine aw_p 3 (
    .a 1 3 <| .nil _ _) ?_
  refine aw_p 7 (
    .a 1 3 <| .nil _ _) ?_
  refine aw_sq 14 15 ?_
  refine aw_p 29 (
    .a 3 3 <| .nil _ _) ?_
  refine aw_bl 0 59 ?_
  refine aw_lp 119 ?_
  refine al_round ?_
  refine aw_p 239 (
    .a 1 3 <| .nil _ _) ?_
  refine aw_sq 478 479 ?_
  refine aw_tr 956 ?_
  refine aw_sk ?_
  refine then_normal ?_
  refine aw_sq 958 959 ?_
  refine aw_bl 1 1917 ?_
  refine aw_p 3835 (
    .a 3 3 <| .nil _ _) ?_
  refine aw_p 7671 (
    .a 3 3 <| .p (does_i (0 + ((R1.length : Nat) : Int)) (wrap_i64 (by omega) (by omega)) .i64) <| .a 1 3 <| .nil _ _) ?_
  refine aw_p 15343 (
    .a 1 3 <| .p (does_b false ((show (decide ((0 + ((R1.length : Nat) : Int)) < 0)) = false from decide_eq_false (by omega)))) <| .nil _ _) ?_
  refine aw_fl 30687 ?_
  refine aw_sk ?_
  refine block_normal ?_
  refine then_normal ?_
  refine aw_p1 (
    .a 2 3 <| .nil _ _) ?_
  refine then_normal ?_
  refine al_round ?_
  refine aw_p 239 (
    .a 1 3 <| .nil _ _) ?_
  refine aw_sq 478 479 ?_
  refine aw_tr 956 ?_
  refine aw_sk ?_
  refine then_normal ?_
  refine aw_sq 958 959 ?_
  refine aw_bl 1 1917 ?_
  refine aw_p 3835 (
    .a 3 3 <| .nil _ _) ?_
  refine aw_p 7671 (
    .a 3 3 <| .p (does_i ((0 + ((R1.length : Nat) : Int)) + ((R2.length : Nat) : Int)) (wrap_i64 (by omega) (by omega)) .i64) <| .a 1 3 <| .nil _ _) ?_
  refine aw_p 15343 (
    .a 1 3 <| .p (does_b false ((show (decide (((0 + ((R1.length : Nat) : Int)) + ((R2.length : Nat) : Int)) < 0)) = false from decide_eq_false (by omega)))) <| .nil _ _) ?_
  refine aw_fl 30687 ?_
  refine aw_sk ?_
  refine block_normal ?_
  refine then_normal ?_
  refine aw_p1 (
    .a 2 3 <| .nil _ _) ?_
  refine then_normal ?_
  refine al_round ?_
  refine aw_p 239 (
    .a 1 3 <| .nil _ _) ?_
  refine aw_sq 478 479 ?_
  refine aw_fl 957 ?_
  refine aw_ex 0 ?_
  refine then_exit ?_
  refine then_exit ?_
  refine block_exit ?_
  refine then_normal ?_
  refine aw_p 31 (
    .a 1 3 <|
    .p (cF #[.const (.slice none 0 0), .tmp 23] #[39, 3] [.slice none 0 0, .int .i64 ((0 + ((R1.length : Nat) : Int)) + ((R2.length : Nat) : Int))] 1 [3] [] [(3, ⟨[], 28, true, 2⟩)] (sV 3 0) (grow_ok (R1.length + R2.length) ((0 + ((R1.length : Nat) : Int)) + ((R2.length : Nat) : Int)) (by omega) (by omega) (by omega)) (.flats (by kernel_rfl)) trivial ⟨rfl, ⟨rfl, rfl, rfl, (.flats (by kernel_rfl))⟩, trivial⟩ rS) <|
    .a 1 4 <| .nil _ _) ?_
  refine aw_sq 62 63 ?_
  refine aw_p 125 (
    .a 3 4 <| .nil _ _) ?_
  refine aw_bl 2 251 ?_
  refine aw_lp 503 ?_
  refine al_round ?_
  refine aw_p 1007 (
    .a 1 4 <| .nil _ _) ?_
  refine aw_sq 2014 2015 ?_
  refine aw_tr 4028 ?_
  refine aw_sk ?_
  refine then_normal ?_
  refine aw_sq 4030 4031 ?_
  refine aw_bl 3 8061 ?_
  refine aw_p 16123 (
    .a 3 4 <| .nil _ _) ?_
  refine aw_p1 (
    .a 2 4 <|
    .p (does_apg R1.length 4 28 2 16 3 0 1 0 R1.length ⟨[], 28, true, 2⟩ (pB R1) (R1.flatMap ptc) (by kernel_rfl) (by kernel_rfl) (by kernel_rfl) (by kernel_rfl) (by kernel_rfl) (plain_pairs _) (by rw [Nat.zero_mul]; exact Nat.zero_le _) (by show _ ≤ (R1.flatMap ptc).length; rw [pairs_length]; omega) (.inl zR1.1) (by omega) (by omega) (by show List.take _ [] ++ ((R1.flatMap ptc).drop _).take _ = _; rw [cut_pairs (j := 0) (k := R1.length) (by omega) (by omega), List.drop_zero, List.take_length, List.take_nil, List.nil_append]) (by omega)) <|
    .a 1 5 <| .nil _ _) ?_
  refine block_normal ?_
  refine then_normal ?_
  refine aw_p1 (
    .a 2 5 <| .nil _ _) ?_
  refine then_normal ?_
  refine al_round ?_
  refine aw_p 1007 (
    .a 1 5 <| .nil _ _) ?_
  refine aw_sq 2014 2015 ?_
  refine aw_tr 4028 ?_
  refine aw_sk ?_
  refine then_normal ?_
  refine aw_sq 4030 4031 ?_
  refine aw_bl 3 8061 ?_
  refine aw_p 16123 (
    .a 3 5 <| .nil _ _) ?_
  refine aw_p1 (
    .a 2 5 <|
    .p (does_apg (R1.length + R2.length) 5 28 2 16 4 R1.length 2 0 R2.length (pB R1) (pB R2) ((R1 ++ R2).flatMap ptc) (by kernel_rfl) (by kernel_rfl) (by kernel_rfl) (by kernel_rfl) (by kernel_rfl) (plain_pairs _) (by show _ ≤ (R1.flatMap ptc).length; rw [pairs_length]; (try simp only [List.length_append]); omega) (by show _ ≤ (R2.flatMap ptc).length; rw [pairs_length]; omega) (.inl zR2.1) (by omega) (by omega) (by show (R1.flatMap ptc).take _ ++ ((R2.flatMap ptc).drop _).take _ = _; rw [cut_pairs (j := 0) (k := R2.length) (by omega) (by omega), List.drop_zero, List.take_length, List.take_of_length_le (by rw [pairs_length]; (try simp only [List.length_append]); omega), ← List.flatMap_append]) (by omega)) <|
    .a 1 6 <| .nil _ _) ?_
  refine block_normal ?_
  refine then_normal ?_
  refine aw_p1 (
    .a 2 6 <| .nil _ _) ?_
  refine then_normal ?_
  refine al_round ?_
  refine aw_p 1007 (
    .a 1 6 <| .nil _ _) ?_
  refine aw_sq 2014 2015 ?_
  refine aw_fl 4029 ?_
  refine aw_ex 2 ?_
  refine then_exit ?_
  refine then_exit ?_
  refine block_exit ?_
  refine then_normal ?_
  refine aw_p 127 (
    .a 2 6 <| .nil _ _) ?_
  refine aw_r [(3, 5)] [(2, sV 5 (R1.length + R2.length))] [(0, ⟨[sV 1 R1.length, sV 2 R2.length], 39, true, 1⟩), (1, (pB R1)), (2, (pB R2)), (5, (pB (R1 ++ R2)))] [(2, sV 3 (R1.length + R2.length))] [(0, ⟨[sV 1 R1.length, sV 2 R2.length], 39, true, 1⟩), (1, (pB R1)), (2, (pB R2)), (3, (pB (R1 ++ R2)))] ?_ ⟨rfl, (rK rfl), trivial⟩ ⟨rfl, ⟨rfl, rfl, rfl, (.cons (rK rfl) (.cons (rK rfl) .nil))⟩, rfl, ⟨rfl, rfl, rfl, (.flats (flats_pair _))⟩, rfl, ⟨rfl, rfl, rfl, (.flats (flats_pair _))⟩, rfl, ⟨rfl, rfl, rfl, (.flats (flats_pair _))⟩, trivial⟩
  refine aw_rt ?_
  exact en_ret [sV 3 (R1.length + R2.length)] (by kernel_rfl)
theorem concat3_ok (R1 R2 R3 : List (Int × Int)) (zR1 : 1 ≤ R1.length ∧ R1.length ≤ 200) (fR1 : Sp.Few 1000 R1) (zR2 : 1 ≤ R2.length ∧ R2.length ≤ 200) (fR2 : Sp.Few 1000 R2) (zR3 : 1 ≤ R3.length ∧ R3.length ≤ 200) (fR3 : Sp.Few 1000 R3) :
    AC Tryz.prog 36 4 ([sV 0 3]) [(0, ⟨[sV 1 R1.length, sV 2 R2.length, sV 3 R3.length], 39, true, 1⟩), (1, (pB R1)), (2, (pB R2)), (3, (pB R3))] (sV 4 (R1.length + R2.length + R3.length)) [(0, ⟨[sV 1 R1.length, sV 2 R2.length, sV 3 R3.length], 39, true, 1⟩), (1, (pB R1)), (2, (pB R2)), (3, (pB R3)), (4, (pB ((R1 ++ R2) ++ R3)))] := by
  refine ac_in Tryz.func36 (fun w0 W pin => ?_)
  refine aw_p 3 (
    .a 1 4 <| .nil _ _) ?_
  refine aw_p 7 (
    .a 1 4 <| .nil _ _) ?_
  refine aw_sq 14 15 ?_
  refine aw_p 29 (
    .a 3 4 <| .nil _ _) ?_
  refine aw_bl 0 59 ?_
  refine aw_lp 119 ?_
  refine al_round ?_
  refine aw_p 239 (
    .a 1 4 <| .nil _ _) ?_
  refine aw_sq 478 479 ?_
  refine aw_tr 956 ?_
  refine aw_sk ?_
  refine then_normal ?_
  refine aw_sq 958 959 ?_
  refine aw_bl 1 1917 ?_
  refine aw_p 3835 (
    .a 3 4 <| .nil _ _) ?_
  refine aw_p 7671 (
    .a 3 4 <| .p (does_i (0 + ((R1.length : Nat) : Int)) (wrap_i64 (by omega) (by omega)) .i64) <| .a 1 4 <| .nil _ _) ?_
  refine aw_p 15343 (
    .a 1 4 <| .p (does_b false ((show (decide ((0 + ((R1.length : Nat) : Int)) < 0)) = false from decide_eq_false (by omega)))) <| .nil _ _) ?_
  refine aw_fl 30687 ?_
  refine aw_sk ?_
  refine block_normal ?_
  refine then_normal ?_
  refine aw_p1 (
    .a 2 4 <| .nil _ _) ?_
  refine then_normal ?_
  refine al_round ?_
  refine aw_p 239 (
    .a 1 4 <| .nil _ _) ?_
  refine aw_sq 478 479 ?_
  refine aw_tr 956 ?_
  refine aw_sk ?_
  refine then_normal ?_
  refine aw_sq 958 959 ?_
  refine aw_bl 1 1917 ?_
  refine aw_p 3835 (
    .a 3 4 <| .nil _ _) ?_
  refine aw_p 7671 (
    .a 3 4 <| .p (does_i ((0 + ((R1.length : Nat) : Int)) + ((R2.length : Nat) : Int)) (wrap_i64 (by omega) (by omega)) .i64) <| .a 1 4 <| .nil _ _) ?_
  refine aw_p 15343 (
    .a 1 4 <| .p (does_b false ((show (decide (((0 + ((R1.length : Nat) : Int)) + ((R2.length : Nat) : Int)) < 0)) = false from decide_eq_false (by omega)))) <| .nil _ _) ?_
  refine aw_fl 30687 ?_
  refine aw_sk ?_
  refine block_normal ?_
  refine then_normal ?_
  refine aw_p1 (
    .a 2 4 <| .nil _ _) ?_
  refine then_normal ?_
  refine al_round ?_
  refine aw_p 239 (
    .a 1 4 <| .nil _ _) ?_
  refine aw_sq 478 479 ?_
  refine aw_tr 956 ?_
  refine aw_sk ?_
  refine then_normal ?_
  refine aw_sq 958 959 ?_
  refine aw_bl 1 1917 ?_
  refine aw_p 3835 (
    .a 3 4 <| .nil _ _) ?_
  refine aw_p 7671 (
    .a 3 4 <| .p (does_i (((0 + ((R1.length : Nat) : Int)) + ((R2.length : Nat) : Int)) + ((R3.length : Nat) : Int)) (wrap_i64 (by omega) (by omega)) .i64) <| .a 1 4 <| .nil _ _) ?_
  refine aw_p 15343 (
    .a 1 4 <| .p (does_b false ((show (decide ((((0 + ((R1.length : Nat) : Int)) + ((R2.length : Nat) : Int)) + ((R3.length : Nat) : Int)) < 0)) = false from decide_eq_false (by omega)))) <| .nil _ _) ?_
  refine aw_fl 30687 ?_
  refine aw_sk ?_
  refine block_normal ?_
  refine then_normal ?_
  refine aw_p1 (
    .a 2 4 <| .nil _ _) ?_
  refine then_normal ?_
  refine al_round ?_
  refine aw_p 239 (
    .a 1 4 <| .nil _ _) ?_
  refine aw_sq 478 479 ?_
  refine aw_fl 957 ?_
  refine aw_ex 0 ?_
  refine then_exit ?_
  refine then_exit ?_
  refine block_exit ?_
  refine then_normal ?_
  refine aw_p 31 (
    .a 1 4 <|
    .p (cF #[.const (.slice none 0 0), .tmp 23] #[39, 3] [.slice none 0 0, .int .i64 (((0 + ((R1.length : Nat) : Int)) + ((R2.length : Nat) : Int)) + ((R3.length : Nat) : Int))] 1 [4] [] [(4, ⟨[], 28, true, 2⟩)] (sV 4 0) (grow_ok (R1.length + R2.length + R3.length) (((0 + ((R1.length : Nat) : Int)) + ((R2.length : Nat) : Int)) + ((R3.length : Nat) : Int)) (by omega) (by omega) (by omega)) (.flats (by kernel_rfl)) trivial ⟨rfl, ⟨rfl, rfl, rfl, (.flats (by kernel_rfl))⟩, trivial⟩ rS) <|
    .a 1 5 <| .nil _ _) ?_
  refine aw_sq 62 63 ?_
  refine aw_p 125 (
    .a 3 5 <| .nil _ _) ?_
  refine aw_bl 2 251 ?_
  refine aw_lp 503 ?_
  refine al_round ?_
  refine aw_p 1007 (
    .a 1 5 <| .nil _ _) ?_
  refine aw_sq 2014 2015 ?_
  refine aw_tr 4028 ?_
  refine aw_sk ?_
  refine then_normal ?_
  refine aw_sq 4030 4031 ?_
  refine aw_bl 3 8061 ?_
  refine aw_p 16123 (
    .a 3 5 <| .nil _ _) ?_
  refine aw_p1 (
    .a 2 5 <|
    .p (does_apg R1.length 5 28 2 16 4 0 1 0 R1.length ⟨[], 28, true, 2⟩ (pB R1) (R1.flatMap ptc) (by kernel_rfl) (by kernel_rfl) (by kernel_rfl) (by kernel_rfl) (by kernel_rfl) (plain_pairs _) (by rw [Nat.zero_mul]; exact Nat.zero_le _) (by show _ ≤ (R1.flatMap ptc).length; rw [pairs_length]; omega) (.inl zR1.1) (by omega) (by omega) (by show List.take _ [] ++ ((R1.flatMap ptc).drop _).take _ = _; rw [cut_pairs (j := 0) (k := R1.length) (by omega) (by omega), List.drop_zero, List.take_length, List.take_nil, List.nil_append]) (by omega)) <|
    .a 1 6 <| .nil _ _) ?_
  refine block_normal ?_
  refine then_normal ?_
  refine aw_p1 (
    .a 2 6 <| .nil _ _) ?_
  refine then_normal ?_
  refine al_round ?_
  refine aw_p 1007 (
    .a 1 6 <| .nil _ _) ?_
  refine aw_sq 2014 2015 ?_
  refine aw_tr 4028 ?_
  refine aw_sk ?_
  refine then_normal ?_
  refine aw_sq 4030 4031 ?_
  refine aw_bl 3 8061 ?_
  refine aw_p 16123 (
    .a 3 6 <| .nil _ _) ?_
  refine aw_p1 (
    .a 2 6 <|
    .p (does_apg (R1.length + R2.length) 6 28 2 16 5 R1.length 2 0 R2.length (pB R1) (pB R2) ((R1 ++ R2).flatMap ptc) (by kernel_rfl) (by kernel_rfl) (by kernel_rfl) (by kernel_rfl) (by kernel_rfl) (plain_pairs _) (by show _ ≤ (R1.flatMap ptc).length; rw [pairs_length]; (try simp only [List.length_append]); omega) (by show _ ≤ (R2.flatMap ptc).length; rw [pairs_length]; omega) (.inl zR2.1) (by omega) (by omega) (by show (R1.flatMap ptc).take _ ++ ((R2.flatMap ptc).drop _).take _ = _; rw [cut_pairs (j := 0) (k := R2.length) (by omega) (by omega), List.drop_zero, List.take_length, List.take_of_length_le (by rw [pairs_length]; (try simp only [List.length_append]); omega), ← List.flatMap_append]) (by omega)) <|
    .a 1 7 <| .nil _ _) ?_
  refine block_normal ?_
  refine then_normal ?_
  refine aw_p1 (
    .a 2 7 <| .nil _ _) ?_
  refine then_normal ?_
  refine al_round ?_
  refine aw_p 1007 (
    .a 1 7 <| .nil _ _) ?_
  refine aw_sq 2014 2015 ?_
  refine aw_tr 4028 ?_
  refine aw_sk ?_
  refine then_normal ?_
  refine aw_sq 4030 4031 ?_
  refine aw_bl 3 8061 ?_
  refine aw_p 16123 (
    .a 3 7 <| .nil _ _) ?_
  refine aw_p1 (
    .a 2 7 <|
    .p (does_apg (R1.length + R2.length + R3.length) 7 28 2 16 6 (R1.length + R2.length) 3 0 R3.length (pB (R1 ++ R2)) (pB R3) (((R1 ++ R2) ++ R3).flatMap ptc) (by kernel_rfl) (by kernel_rfl) (by kernel_rfl) (by kernel_rfl) (by kernel_rfl) (plain_pairs _) (by show _ ≤ ((R1 ++ R2).flatMap ptc).length; rw [pairs_length]; (try simp only [List.length_append]); omega) (by show _ ≤ (R3.flatMap ptc).length; rw [pairs_length]; omega) (.inl zR3.1) (by omega) (by omega) (by show ((R1 ++ R2).flatMap ptc).take _ ++ ((R3.flatMap ptc).drop _).take _ = _; rw [cut_pairs (j := 0) (k := R3.length) (by omega) (by omega), List.drop_zero, List.take_length, List.take_of_length_le (by rw [pairs_length]; (try simp only [List.length_append]); omega), ← List.flatMap_append]) (by omega)) <|
    .a 1 8 <| .nil _ _) ?_
  refine block_normal ?_
  refine then_normal ?_
  refine aw_p1 (
    .a 2 8 <| .nil _ _) ?_
  refine then_normal ?_
  refine al_round ?_
  refine aw_p 1007 (
    .a 1 8 <| .nil _ _) ?_
  refine aw_sq 2014 2015 ?_
  refine aw_fl 4029 ?_
  refine aw_ex 2 ?_
  refine then_exit ?_
  refine then_exit ?_
  refine block_exit ?_
  refine then_normal ?_
  refine aw_p 127 (
    .a 2 8 <| .nil _ _) ?_
  refine aw_r [(4, 7)] [(2, sV 7 (R1.length + R2.length + R3.length))] [(0, ⟨[sV 1 R1.length, sV 2 R2.length, sV 3 R3.length], 39, true, 1⟩), (1, (pB R1)), (2, (pB R2)), (3, (pB R3)), (7, (pB ((R1 ++ R2) ++ R3)))] [(2, sV 4 (R1.length + R2.length + R3.length))] [(0, ⟨[sV 1 R1.length, sV 2 R2.length, sV 3 R3.length], 39, true, 1⟩), (1, (pB R1)), (2, (pB R2)), (3, (pB R3)), (4, (pB ((R1 ++ R2) ++ R3)))] ?_ ⟨rfl, (rK rfl), trivial⟩ ⟨rfl, ⟨rfl, rfl, rfl, (.cons (rK rfl) (.cons (rK rfl) (.cons (rK rfl) .nil)))⟩, rfl, ⟨rfl, rfl, rfl, (.flats (flats_pair _))⟩, rfl, ⟨rfl, rfl, rfl, (.flats (flats_pair _))⟩, rfl, ⟨rfl, rfl, rfl, (.flats (flats_pair _))⟩, rfl, ⟨rfl, rfl, rfl, (.flats (flats_pair _))⟩, trivial⟩
  refine aw_rt ?_
  exact en_ret [sV 4 (R1.length + R2.length + R3.length)] (by kernel_rfl)
end Go.Proofs.YtndkhgfecnbmnaaGreat.Am

namespace Go.Proofs.YtndkhgfecnbmnaaGreat.Am
open Go Go.Proofs
set_option maxRecDepth 100000
set_option maxHeartbeats 4000000
set_option linter.unusedVariables false
set_option linter.unusedSimpArgs false
theorem abox_1 (R1 : List (Int × Int)) (zR1 : 1 ≤ R1.length ∧ R1.length ≤ 200) (fR1 : Sp.Few 1000 R1) :
    AC Tryz.prog 11 2 ([sV 0 1]) [(0, ⟨[sV 1 R1.length], 39, true, 1⟩), (1, (pB R1))] (.agg #[.int .i64 ((Sp.bxr R1 R1.length).1), .int .i64 ((Sp.bxr R1 R1.length).2.1), .int .i64 ((Sp.bxr R1 R1.length).2.2.1), .int .i64 ((Sp.bxr R1 R1.length).2.2.2)]) [(0, ⟨[sV 1 R1.length], 39, true, 1⟩), (1, (pB R1))] := by
  have hN : R1.length = R1.length := rfl
  refine ac_in Tryz.func11 (fun w0 W pin => ?_)
  refine aw_p 3 (
    .a 1 2 <| .nil _ _) ?_
  refine aw_p 7 (
    .a 1 3 <| .nil _ _) ?_
  refine aw_sq 14 15 ?_
  refine aw_p 29 (
    .a 1 4 <|
    .p (cF #[.tmp 6] #[24] [sV 0 1] 1 [0, 1, 4] [(0, ⟨[sV 1 R1.length], 39, true, 1⟩), (1, (pB R1))] [(0, ⟨[sV 1 R1.length], 39, true, 1⟩), (1, (pB R1)), (4, (pB R1))] (sV 4 R1.length) (concat1_ok R1 zR1 fR1) (.cons rS .nil) ⟨rfl, ⟨rfl, rfl, rfl, (.cons rS .nil)⟩, rfl, bP, trivial⟩ ⟨rfl, ⟨rfl, rfl, rfl, (.cons rS .nil)⟩, rfl, bP, rfl, bP, trivial⟩ rS) <|
    .a 2 5 <| .nil _ _) ?_
  refine aw_bl 0 59 ?_
  refine aw_lp 119 ?_
  refine al_w [(2, .pointer (some ⟨2, 0, none⟩)), (3, .pointer (some ⟨3, 0, none⟩)), (7, sV 4 R1.length), (8, .int .i64 ((R1.length : Nat) : Int)), (9, .int .i64 ((0 : Nat) : Int))] [(0, ⟨[sV 1 R1.length], 39, true, 1⟩), (1, (pB R1)), (2, ⟨[.int .i64 0, .int .i64 0, .int .i64 0, .int .i64 0], 36, true, 4⟩), (3, ⟨[.int .i64 0, .int .i64 0, .int .i64 0, .int .i64 0], 36, true, 4⟩), (4, (pB R1))] ?_ (hc := (by simp [closedB, valsB, valB, List.all_eq_true, List.mem_flatMap, List.mem_range, List.mem_map, i64v, ptc, flat1]; try (intros; simp [valsB, valB, flat1]); try decide))
  refine al_ind (fun i : Nat × Int × Int × Int × Int => (fun (i : Nat) (a : Int) (b : Int) (c : Int) (d : Int) => mkSt 2 [(2, .pointer (some ⟨2, 0, none⟩)), (3, .pointer (some ⟨3, 0, none⟩)), (7, sV 4 R1.length), (8, .int .i64 ((R1.length : Nat) : Int)), (9, .int .i64 ((i : Nat) : Int))] [(0, ⟨[sV 1 R1.length], 39, true, 1⟩), (1, (pB R1)), (2, ⟨[.int .i64 0, .int .i64 0, .int .i64 0, .int .i64 0], 36, true, 4⟩), (3, ⟨[.int .i64 a, .int .i64 b, .int .i64 c, .int .i64 d], 36, true, 4⟩), (4, (pB R1))]) i.1 i.2.1 i.2.2.1 i.2.2.2.1 i.2.2.2.2) (fun i : Nat × Int × Int × Int × Int => (fun (i : Nat) (a : Int) (b : Int) (c : Int) (d : Int) => (i ≤ R1.length) ∧ (a = (Sp.bxr R1 i).1) ∧ (b = (Sp.bxr R1 i).2.1) ∧ (c = (Sp.bxr R1 i).2.2.1) ∧ (d = (Sp.bxr R1 i).2.2.2)) i.1 i.2.1 i.2.2.1 i.2.2.2.1 i.2.2.2.2) (fun i : Nat × Int × Int × Int × Int => (fun (i : Nat) (a : Int) (b : Int) (c : Int) (d : Int) => R1.length - i) i.1 i.2.1 i.2.2.1 i.2.2.2.1 i.2.2.2.2) (fun i hi1 ih1 => ?_) (0, 0, 0, 0, 0) (show (0 ≤ R1.length) ∧ (0 = (Sp.bxr R1 0).1) ∧ (0 = (Sp.bxr R1 0).2.1) ∧ (0 = (Sp.bxr R1 0).2.2.1) ∧ (0 = (Sp.bxr R1 0).2.2.2) from ⟨by omega, by rfl, by rfl, by rfl, by rfl⟩)
  obtain ⟨i, a, b, c, d⟩ := i
  have hi1' : (i ≤ R1.length) ∧ (a = (Sp.bxr R1 i).1) ∧ (b = (Sp.bxr R1 i).2.1) ∧ (c = (Sp.bxr R1 i).2.2.1) ∧ (d = (Sp.bxr R1 i).2.2.2) := hi1
  obtain ⟨hi, ha, hb, hc, hd⟩ := hi1'
  show AL _ _ _ (mkSt 2 [(2, .pointer (some ⟨2, 0, none⟩)), (3, .pointer (some ⟨3, 0, none⟩)), (7, sV 4 R1.length), (8, .int .i64 ((R1.length : Nat) : Int)), (9, .int .i64 ((i : Nat) : Int))] [(0, ⟨[sV 1 R1.length], 39, true, 1⟩), (1, (pB R1)), (2, ⟨[.int .i64 0, .int .i64 0, .int .i64 0, .int .i64 0], 36, true, 4⟩), (3, ⟨[.int .i64 a, .int .i64 b, .int .i64 c, .int .i64 d], 36, true, 4⟩), (4, (pB R1))]) _
  refine al_round ?_
  refine aw_p 239 (
    .a 1 5 <| .nil _ _) ?_
  refine aw_sq 478 479 ?_
  refine aw_cd 956 957 (decide (((i : Nat) : Int) < ((R1.length : Nat) : Int))) (fun h1 => ?_) (fun h1 => ?_)
  · have h1p : ((((i : Nat) : Int) < ((R1.length : Nat) : Int))) := by first | (simpa using h1) | (have h1q := h1; simp at h1q; omega) | (have h1q := bx1 h1; simp at h1q; omega)
    refine aw_sk ?_
    refine then_normal ?_
    refine aw_sq 958 959 ?_
    refine aw_bl 1 1917 ?_
    refine aw_p 3835 (
      .a 1 5 <| .p (does_indexSlice (t := 39) (x := .tmp 7) (y := .tmp 9) (k := 4) (off := 0) (n := R1.length) (c := 0) (z := 2) (kd := .i64) (j := ((i : Nat) : Int)) (by kernel_rfl) (by kernel_rfl) (by kernel_rfl) (by kernel_rfl) (by kernel_rfl) (by omega) (by omega)) <|
      .p (does_load (t := 28) (x := .tmp 12) (k := 4) (off := (0 + (((i : Nat) : Int)).toNat * 2)) (b := (pB R1)) (v := .agg #[.int .i64 ((R1.getD i (0, 0)).1), .int .i64 ((R1.getD i (0, 0)).2)]) (by kernel_rfl) (by kernel_rfl) (by kernel_rfl) (ldV_pair (j := i) (by kernel_rfl) (by kernel_rfl) (by omega) (by first | omega | (simp only [List.length_append]; omega)))) <|
      .a 3 5 <| .nil _ _) ?_
    refine aw_sq 7670 7671 ?_
    refine aw_p 15341 (
      .a 2 6 <| .nil _ _) ?_
    refine aw_cd 30682 30683 (((i : Nat) : Int) == 0) (fun h2 => ?_) (fun h2 => ?_)
    · have h2p : ((((i : Nat) : Int) = 0)) := by first | (simpa using h2) | (have h2q := h2; simp at h2q; omega) | (have h2q := bx1 h2; simp at h2q; omega)
      have h0 :  i = 0 := by first | (have q := h2; simp at q; omega)
      refine aw_p1 (
        .a 4 6 <| .nil _ _) ?_
      refine then_normal ?_
      refine aw_p 15343 (
        .a 15 6 <| .nil _ _) ?_
      refine aw_p1 (
        .a 15 6 <| .nil _ _) ?_
      refine block_normal ?_
      refine then_normal ?_
      refine aw_p1 (
        .p (does_i (((i : Nat) : Int) + 1) (wrap_i64 (by omega) (by omega)) .i64) <| .a 1 6 <| .nil _ _) ?_
      refine then_normal ?_
      refine al_w [(2, .pointer (some ⟨2, 0, none⟩)), (3, .pointer (some ⟨3, 0, none⟩)), (7, sV 4 R1.length), (8, .int .i64 ((R1.length : Nat) : Int)), (9, .int .i64 (((i + 1) : Nat) : Int))] [(0, ⟨[sV 1 R1.length], 39, true, 1⟩), (1, (pB R1)), (2, ⟨[.int .i64 0, .int .i64 0, .int .i64 0, .int .i64 0], 36, true, 4⟩), (3, ⟨[.int .i64 (Sp.mn ((R1.getD i (0, 0)).1) ((R1.getD i (0, 0)).1)), .int .i64 (Sp.mn ((R1.getD i (0, 0)).2) ((R1.getD i (0, 0)).2)), .int .i64 (Sp.mx ((R1.getD i (0, 0)).1) ((R1.getD i (0, 0)).1)), .int .i64 (Sp.mx ((R1.getD i (0, 0)).2) ((R1.getD i (0, 0)).2))], 36, true, 4⟩), (4, (pB R1))] ?_ (hc := (by simp [closedB, valsB, valB, List.all_eq_true, List.mem_flatMap, List.mem_range, List.mem_map, i64v, ptc, flat1]; try (intros; simp [valsB, valB, flat1]); try decide))
      exact ih1 ((i + 1), (Sp.mn ((R1.getD i (0, 0)).1) ((R1.getD i (0, 0)).1)), (Sp.mn ((R1.getD i (0, 0)).2) ((R1.getD i (0, 0)).2)), (Sp.mx ((R1.getD i (0, 0)).1) ((R1.getD i (0, 0)).1)), (Sp.mx ((R1.getD i (0, 0)).2) ((R1.getD i (0, 0)).2))) (show ((i + 1) ≤ R1.length) ∧ ((Sp.mn ((R1.getD i (0, 0)).1) ((R1.getD i (0, 0)).1)) = (Sp.bxr R1 (i + 1)).1) ∧ ((Sp.mn ((R1.getD i (0, 0)).2) ((R1.getD i (0, 0)).2)) = (Sp.bxr R1 (i + 1)).2.1) ∧ ((Sp.mx ((R1.getD i (0, 0)).1) ((R1.getD i (0, 0)).1)) = (Sp.bxr R1 (i + 1)).2.2.1) ∧ ((Sp.mx ((R1.getD i (0, 0)).2) ((R1.getD i (0, 0)).2)) = (Sp.bxr R1 (i + 1)).2.2.2) from ⟨by omega, by (first | (rw [Sp.bxr_0 (by assumption)]) | (rw [Sp.bxr_n (by assumption), ← ha, ← hb, ← hc, ← hd])), by (first | (rw [Sp.bxr_0 (by assumption)]) | (rw [Sp.bxr_n (by assumption), ← ha, ← hb, ← hc, ← hd])), by (first | (rw [Sp.bxr_0 (by assumption)]) | (rw [Sp.bxr_n (by assumption), ← ha, ← hb, ← hc, ← hd])), by (first | (rw [Sp.bxr_0 (by assumption)]) | (rw [Sp.bxr_n (by assumption), ← ha, ← hb, ← hc, ← hd]))⟩) (show R1.length - (i + 1) < R1.length - i from by omega)
    · have h2p : ¬ ((((i : Nat) : Int) = 0)) := by first | (simpa using h2) | (have h2q := h2; simp at h2q; omega) | (have h2q := bx2 h2; simp at h2q; omega)
      have h0 : ¬ i = 0 := by first | (have q := h2; simp at q; omega)
      refine aw_sk ?_
      refine then_normal ?_
      refine aw_p 15343 (
        .a 15 6 <| .nil _ _) ?_
      refine aw_p1 (
        .a 15 6 <| .nil _ _) ?_
      refine block_normal ?_
      refine then_normal ?_
      refine aw_p1 (
        .p (does_i (((i : Nat) : Int) + 1) (wrap_i64 (by omega) (by omega)) .i64) <| .a 1 6 <| .nil _ _) ?_
      refine then_normal ?_
      refine al_w [(2, .pointer (some ⟨2, 0, none⟩)), (3, .pointer (some ⟨3, 0, none⟩)), (7, sV 4 R1.length), (8, .int .i64 ((R1.length : Nat) : Int)), (9, .int .i64 (((i + 1) : Nat) : Int))] [(0, ⟨[sV 1 R1.length], 39, true, 1⟩), (1, (pB R1)), (2, ⟨[.int .i64 0, .int .i64 0, .int .i64 0, .int .i64 0], 36, true, 4⟩), (3, ⟨[.int .i64 (Sp.mn a ((R1.getD i (0, 0)).1)), .int .i64 (Sp.mn b ((R1.getD i (0, 0)).2)), .int .i64 (Sp.mx c ((R1.getD i (0, 0)).1)), .int .i64 (Sp.mx d ((R1.getD i (0, 0)).2))], 36, true, 4⟩), (4, (pB R1))] ?_ (hc := (by simp [closedB, valsB, valB, List.all_eq_true, List.mem_flatMap, List.mem_range, List.mem_map, i64v, ptc, flat1]; try (intros; simp [valsB, valB, flat1]); try decide))
      exact ih1 ((i + 1), (Sp.mn a ((R1.getD i (0, 0)).1)), (Sp.mn b ((R1.getD i (0, 0)).2)), (Sp.mx c ((R1.getD i (0, 0)).1)), (Sp.mx d ((R1.getD i (0, 0)).2))) (show ((i + 1) ≤ R1.length) ∧ ((Sp.mn a ((R1.getD i (0, 0)).1)) = (Sp.bxr R1 (i + 1)).1) ∧ ((Sp.mn b ((R1.getD i (0, 0)).2)) = (Sp.bxr R1 (i + 1)).2.1) ∧ ((Sp.mx c ((R1.getD i (0, 0)).1)) = (Sp.bxr R1 (i + 1)).2.2.1) ∧ ((Sp.mx d ((R1.getD i (0, 0)).2)) = (Sp.bxr R1 (i + 1)).2.2.2) from ⟨by omega, by (first | (rw [Sp.bxr_0 (by assumption)]) | (rw [Sp.bxr_n (by assumption), ← ha, ← hb, ← hc, ← hd])), by (first | (rw [Sp.bxr_0 (by assumption)]) | (rw [Sp.bxr_n (by assumption), ← ha, ← hb, ← hc, ← hd])), by (first | (rw [Sp.bxr_0 (by assumption)]) | (rw [Sp.bxr_n (by assumption), ← ha, ← hb, ← hc, ← hd])), by (first | (rw [Sp.bxr_0 (by assumption)]) | (rw [Sp.bxr_n (by assumption), ← ha, ← hb, ← hc, ← hd]))⟩) (show R1.length - (i + 1) < R1.length - i from by omega)
  · have h1p : ¬ ((((i : Nat) : Int) < ((R1.length : Nat) : Int))) := by first | (simpa using h1) | (have h1q := h1; simp at h1q; omega) | (have h1q := bx2 h1; simp at h1q; omega)
    have hl : i = R1.length := by omega
    have ha' : a = (Sp.bxr R1 R1.length).1 := by rw [ha, hl]
    have hb' : b = (Sp.bxr R1 R1.length).2.1 := by rw [hb, hl]
    have hc' : c = (Sp.bxr R1 R1.length).2.2.1 := by rw [hc, hl]
    have hd' : d = (Sp.bxr R1 R1.length).2.2.2 := by rw [hd, hl]
    refine aw_ex 0 ?_
    refine then_exit ?_
    refine then_exit ?_
    refine block_exit ?_
    refine then_normal ?_
    refine aw_p 31 (
      .a 2 5 <| .nil _ _) ?_
    refine aw_rt ?_
    exact en_ret [.agg #[.int .i64 a, .int .i64 b, .int .i64 c, .int .i64 d]] (show (.agg #[.int .i64 a, .int .i64 b, .int .i64 c, .int .i64 d] : Value) = (.agg #[.int .i64 ((Sp.bxr R1 R1.length).1), .int .i64 ((Sp.bxr R1 R1.length).2.1), .int .i64 ((Sp.bxr R1 R1.length).2.2.1), .int .i64 ((Sp.bxr R1 R1.length).2.2.2)]) from (congrArg (fun z : List Value => Value.agg z.toArray) (lcons (congrArg (Value.int .i64) (show a = ((Sp.bxr R1 R1.length).1) from by (first | exact ha' | exact hb' | exact hc' | exact hd'))) (lcons (congrArg (Value.int .i64) (show b = ((Sp.bxr R1 R1.length).2.1) from by (first | exact ha' | exact hb' | exact hc' | exact hd'))) (lcons (congrArg (Value.int .i64) (show c = ((Sp.bxr R1 R1.length).2.2.1) from by (first | exact ha' | exact hb' | exact hc' | exact hd'))) (lcons (congrArg (Value.int .i64) (show d = ((Sp.bxr R1 R1.length).2.2.2) from by (first | exact ha' | exact hb' | exact hc' | exact hd'))) rfl))))))
theorem abox_2 (R1 R2 : List (Int × Int)) (zR1 : 1 ≤ R1.length ∧ R1.length ≤ 200) (fR1 : Sp.Few 1000 R1) (zR2 : 1 ≤ R2.length ∧ R2.length ≤ 200) (fR2 : Sp.Few 1000 R2) :
    AC Tryz.prog 11 3 ([sV 0 2]) [(0, ⟨[sV 1 R1.length, sV 2 R2.length], 39, true, 1⟩), (1, (pB R1)), (2, (pB R2))] (.agg #[.int .i64 ((Sp.bxr (R1 ++ R2) ((R1 ++ R2).length)).1), .int .i64 ((Sp.bxr (R1 ++ R2) ((R1 ++ R2).length)).2.1), .int .i64 ((Sp.bxr (R1 ++ R2) ((R1 ++ R2).length)).2.2.1), .int .i64 ((Sp.bxr (R1 ++ R2) ((R1 ++ R2).length)).2.2.2)]) [(0, ⟨[sV 1 R1.length, sV 2 R2.length], 39, true, 1⟩), (1, (pB R1)), (2, (pB R2))] := by
  have hN : (R1 ++ R2).length = (R1.length + R2.length) := by simp only [List.length_append]
  refine ac_in Tryz.func11 (fun w0 W pin => ?_)
  refine aw_p 3 (
    .a 1 3 <| .nil _ _) ?_
  refine aw_p 7 (
    .a 1 4 <| .nil _ _) ?_
  refine aw_sq 14 15 ?_
  refine aw_p 29 (
    .a 1 5 <|
    .p (cF #[.tmp 6] #[24] [sV 0 2] 1 [0, 1, 2, 5] [(0, ⟨[sV 1 R1.length, sV 2 R2.length], 39, true, 1⟩), (1, (pB R1)), (2, (pB R2))] [(0, ⟨[sV 1 R1.length, sV 2 R2.length], 39, true, 1⟩), (1, (pB R1)), (2, (pB R2)), (5, (pB (R1 ++ R2)))] (sV 5 (R1.length + R2.length)) (concat2_ok R1 R2 zR1 fR1 zR2 fR2) (.cons rS .nil) ⟨rfl, ⟨rfl, rfl, rfl, (.cons rS (.cons rS .nil))⟩, rfl, bP, rfl, bP, trivial⟩ ⟨rfl, ⟨rfl, rfl, rfl, (.cons rS (.cons rS .nil))⟩, rfl, bP, rfl, bP, rfl, bP, trivial⟩ rS) <|
    .a 2 6 <| .nil _ _) ?_
  refine aw_bl 0 59 ?_
  refine aw_lp 119 ?_
  refine al_w [(2, .pointer (some ⟨3, 0, none⟩)), (3, .pointer (some ⟨4, 0, none⟩)), (7, sV 5 (R1.length + R2.length)), (8, .int .i64 (((R1.length + R2.length) : Nat) : Int)), (9, .int .i64 ((0 : Nat) : Int))] [(0, ⟨[sV 1 R1.length, sV 2 R2.length], 39, true, 1⟩), (1, (pB R1)), (2, (pB R2)), (3, ⟨[.int .i64 0, .int .i64 0, .int .i64 0, .int .i64 0], 36, true, 4⟩), (4, ⟨[.int .i64 0, .int .i64 0, .int .i64 0, .int .i64 0], 36, true, 4⟩), (5, (pB (R1 ++ R2)))] ?_ (hc := (by simp [closedB, valsB, valB, List.all_eq_true, List.mem_flatMap, List.mem_range, List.mem_map, i64v, ptc, flat1]; try (intros; simp [valsB, valB, flat1]); try decide))
  refine al_ind (fun i : Nat × Int × Int × Int × Int => (fun (i : Nat) (a : Int) (b : Int) (c : Int) (d : Int) => mkSt 3 [(2, .pointer (some ⟨3, 0, none⟩)), (3, .pointer (some ⟨4, 0, none⟩)), (7, sV 5 (R1.length + R2.length)), (8, .int .i64 (((R1.length + R2.length) : Nat) : Int)), (9, .int .i64 ((i : Nat) : Int))] [(0, ⟨[sV 1 R1.length, sV 2 R2.length], 39, true, 1⟩), (1, (pB R1)), (2, (pB R2)), (3, ⟨[.int .i64 0, .int .i64 0, .int .i64 0, .int .i64 0], 36, true, 4⟩), (4, ⟨[.int .i64 a, .int .i64 b, .int .i64 c, .int .i64 d], 36, true, 4⟩), (5, (pB (R1 ++ R2)))]) i.1 i.2.1 i.2.2.1 i.2.2.2.1 i.2.2.2.2) (fun i : Nat × Int × Int × Int × Int => (fun (i : Nat) (a : Int) (b : Int) (c : Int) (d : Int) => (i ≤ (R1.length + R2.length)) ∧ (a = (Sp.bxr (R1 ++ R2) i).1) ∧ (b = (Sp.bxr (R1 ++ R2) i).2.1) ∧ (c = (Sp.bxr (R1 ++ R2) i).2.2.1) ∧ (d = (Sp.bxr (R1 ++ R2) i).2.2.2)) i.1 i.2.1 i.2.2.1 i.2.2.2.1 i.2.2.2.2) (fun i : Nat × Int × Int × Int × Int => (fun (i : Nat) (a : Int) (b : Int) (c : Int) (d : Int) => (R1.length + R2.length) - i) i.1 i.2.1 i.2.2.1 i.2.2.2.1 i.2.2.2.2) (fun i hi1 ih1 => ?_) (0, 0, 0, 0, 0) (show (0 ≤ (R1.length + R2.length)) ∧ (0 = (Sp.bxr (R1 ++ R2) 0).1) ∧ (0 = (Sp.bxr (R1 ++ R2) 0).2.1) ∧ (0 = (Sp.bxr (R1 ++ R2) 0).2.2.1) ∧ (0 = (Sp.bxr (R1 ++ R2) 0).2.2.2) from ⟨by omega, by rfl, by rfl, by rfl, by rfl⟩)
  obtain ⟨i, a, b, c, d⟩ := i
  have hi1' : (i ≤ (R1.length + R2.length)) ∧ (a = (Sp.bxr (R1 ++ R2) i).1) ∧ (b = (Sp.bxr (R1 ++ R2) i).2.1) ∧ (c = (Sp.bxr (R1 ++ R2) i).2.2.1) ∧ (d = (Sp.bxr (R1 ++ R2) i).2.2.2) := hi1
  obtain ⟨hi, ha, hb, hc, hd⟩ := hi1'
  show AL _ _ _ (mkSt 3 [(2, .pointer (some ⟨3, 0, none⟩)), (3, .pointer (some ⟨4, 0, none⟩)), (7, sV 5 (R1.length + R2.length)), (8, .int .i64 (((R1.length + R2.length) : Nat) : Int)), (9, .int .i64 ((i : Nat) : Int))] [(0, ⟨[sV 1 R1.length, sV 2 R2.length], 39, true, 1⟩), (1, (pB R1)), (2, (pB R2)), (3, ⟨[.int .i64 0, .int .i64 0, .int .i64 0, .int .i64 0], 36, true, 4⟩), (4, ⟨[.int .i64 a, .int .i64 b, .int .i64 c, .int .i64 d], 36, true, 4⟩), (5, (pB (R1 ++ R2)))]) _
  refine al_round ?_
  refine aw_p 239 (
    .a 1 6 <| .nil _ _) ?_
  refine aw_sq 478 479 ?_
  refine aw_cd 956 957 (decide (((i : Nat) : Int) < (((R1.length + R2.length) : Nat) : Int))) (fun h1 => ?_) (fun h1 => ?_)
  · have h1p : ((((i : Nat) : Int) < (((R1.length + R2.length) : Nat) : Int))) := by first | (simpa using h1) | (have h1q := h1; simp at h1q; omega) | (have h1q := bx1 h1; simp at h1q; omega)
    refine aw_sk ?_
    refine then_normal ?_
    refine aw_sq 958 959 ?_
    refine aw_bl 1 1917 ?_
    refine aw_p 3835 (
      .a 1 6 <| .p (does_indexSlice (t := 39) (x := .tmp 7) (y := .tmp 9) (k := 5) (off := 0) (n := (R1.length + R2.length)) (c := 0) (z := 2) (kd := .i64) (j := ((i : Nat) : Int)) (by kernel_rfl) (by kernel_rfl) (by kernel_rfl) (by kernel_rfl) (by kernel_rfl) (by omega) (by omega)) <|
      .p (does_load (t := 28) (x := .tmp 12) (k := 5) (off := (0 + (((i : Nat) : Int)).toNat * 2)) (b := (pB (R1 ++ R2))) (v := .agg #[.int .i64 (((R1 ++ R2).getD i (0, 0)).1), .int .i64 (((R1 ++ R2).getD i (0, 0)).2)]) (by kernel_rfl) (by kernel_rfl) (by kernel_rfl) (ldV_pair (j := i) (by kernel_rfl) (by kernel_rfl) (by omega) (by first | omega | (simp only [List.length_append]; omega)))) <|
      .a 3 6 <| .nil _ _) ?_
    refine aw_sq 7670 7671 ?_
    refine aw_p 15341 (
      .a 2 7 <| .nil _ _) ?_
    refine aw_cd 30682 30683 (((i : Nat) : Int) == 0) (fun h2 => ?_) (fun h2 => ?_)
    · have h2p : ((((i : Nat) : Int) = 0)) := by first | (simpa using h2) | (have h2q := h2; simp at h2q; omega) | (have h2q := bx1 h2; simp at h2q; omega)
      have h0 :  i = 0 := by first | (have q := h2; simp at q; omega)
      refine aw_p1 (
        .a 4 7 <| .nil _ _) ?_
      refine then_normal ?_
      refine aw_p 15343 (
        .a 15 7 <| .nil _ _) ?_
      refine aw_p1 (
        .a 15 7 <| .nil _ _) ?_
      refine block_normal ?_
      refine then_normal ?_
      refine aw_p1 (
        .p (does_i (((i : Nat) : Int) + 1) (wrap_i64 (by omega) (by omega)) .i64) <| .a 1 7 <| .nil _ _) ?_
      refine then_normal ?_
      refine al_w [(2, .pointer (some ⟨3, 0, none⟩)), (3, .pointer (some ⟨4, 0, none⟩)), (7, sV 5 (R1.length + R2.length)), (8, .int .i64 (((R1.length + R2.length) : Nat) : Int)), (9, .int .i64 (((i + 1) : Nat) : Int))] [(0, ⟨[sV 1 R1.length, sV 2 R2.length], 39, true, 1⟩), (1, (pB R1)), (2, (pB R2)), (3, ⟨[.int .i64 0, .int .i64 0, .int .i64 0, .int .i64 0], 36, true, 4⟩), (4, ⟨[.int .i64 (Sp.mn (((R1 ++ R2).getD i (0, 0)).1) (((R1 ++ R2).getD i (0, 0)).1)), .int .i64 (Sp.mn (((R1 ++ R2).getD i (0, 0)).2) (((R1 ++ R2).getD i (0, 0)).2)), .int .i64 (Sp.mx (((R1 ++ R2).getD i (0, 0)).1) (((R1 ++ R2).getD i (0, 0)).1)), .int .i64 (Sp.mx (((R1 ++ R2).getD i (0, 0)).2) (((R1 ++ R2).getD i (0, 0)).2))], 36, true, 4⟩), (5, (pB (R1 ++ R2)))] ?_ (hc := (by simp [closedB, valsB, valB, List.all_eq_true, List.mem_flatMap, List.mem_range, List.mem_map, i64v, ptc, flat1]; try (intros; simp [valsB, valB, flat1]); try decide))
      exact ih1 ((i + 1), (Sp.mn (((R1 ++ R2).getD i (0, 0)).1) (((R1 ++ R2).getD i (0, 0)).1)), (Sp.mn (((R1 ++ R2).getD i (0, 0)).2) (((R1 ++ R2).getD i (0, 0)).2)), (Sp.mx (((R1 ++ R2).getD i (0, 0)).1) (((R1 ++ R2).getD i (0, 0)).1)), (Sp.mx (((R1 ++ R2).getD i (0, 0)).2) (((R1 ++ R2).getD i (0, 0)).2))) (show ((i + 1) ≤ (R1.length + R2.length)) ∧ ((Sp.mn (((R1 ++ R2).getD i (0, 0)).1) (((R1 ++ R2).getD i (0, 0)).1)) = (Sp.bxr (R1 ++ R2) (i + 1)).1) ∧ ((Sp.mn (((R1 ++ R2).getD i (0, 0)).2) (((R1 ++ R2).getD i (0, 0)).2)) = (Sp.bxr (R1 ++ R2) (i + 1)).2.1) ∧ ((Sp.mx (((R1 ++ R2).getD i (0, 0)).1) (((R1 ++ R2).getD i (0, 0)).1)) = (Sp.bxr (R1 ++ R2) (i + 1)).2.2.1) ∧ ((Sp.mx (((R1 ++ R2).getD i (0, 0)).2) (((R1 ++ R2).getD i (0, 0)).2)) = (Sp.bxr (R1 ++ R2) (i + 1)).2.2.2) from ⟨by omega, by (first | (rw [Sp.bxr_0 (by assumption)]) | (rw [Sp.bxr_n (by assumption), ← ha, ← hb, ← hc, ← hd])), by (first | (rw [Sp.bxr_0 (by assumption)]) | (rw [Sp.bxr_n (by assumption), ← ha, ← hb, ← hc, ← hd])), by (first | (rw [Sp.bxr_0 (by assumption)]) | (rw [Sp.bxr_n (by assumption), ← ha, ← hb, ← hc, ← hd])), by (first | (rw [Sp.bxr_0 (by assumption)]) | (rw [Sp.bxr_n (by assumption), ← ha, ← hb, ← hc, ← hd]))⟩) (show (R1.length + R2.length) - (i + 1) < (R1.length + R2.length) - i from by omega)
    · have h2p : ¬ ((((i : Nat) : Int) = 0)) := by first | (simpa using h2) | (have h2q := h2; simp at h2q; omega) | (have h2q := bx2 h2; simp at h2q; omega)
      have h0 : ¬ i = 0 := by first | (have q := h2; simp at q; omega)
      refine aw_sk ?_
      refine then_normal ?_
      refine aw_p 15343 (
        .a 15 7 <| .nil _ _) ?_
      refine aw_p1 (
        .a 15 7 <| .nil _ _) ?_
      refine block_normal ?_
      refine then_normal ?_
      refine aw_p1 (
        .p (does_i (((i : Nat) : Int) + 1) (wrap_i64 (by omega) (by omega)) .i64) <| .a 1 7 <| .nil _ _) ?_
      refine then_normal ?_
      refine al_w [(2, .pointer (some ⟨3, 0, none⟩)), (3, .pointer (some ⟨4, 0, none⟩)), (7, sV 5 (R1.length + R2.length)), (8, .int .i64 (((R1.length + R2.length) : Nat) : Int)), (9, .int .i64 (((i + 1) : Nat) : Int))] [(0, ⟨[sV 1 R1.length, sV 2 R2.length], 39, true, 1⟩), (1, (pB R1)), (2, (pB R2)), (3, ⟨[.int .i64 0, .int .i64 0, .int .i64 0, .int .i64 0], 36, true, 4⟩), (4, ⟨[.int .i64 (Sp.mn a (((R1 ++ R2).getD i (0, 0)).1)), .int .i64 (Sp.mn b (((R1 ++ R2).getD i (0, 0)).2)), .int .i64 (Sp.mx c (((R1 ++ R2).getD i (0, 0)).1)), .int .i64 (Sp.mx d (((R1 ++ R2).getD i (0, 0)).2))], 36, true, 4⟩), (5, (pB (R1 ++ R2)))] ?_ (hc := (by simp [closedB, valsB, valB, List.all_eq_true, List.mem_flatMap, List.mem_range, List.mem_map, i64v, ptc, flat1]; try (intros; simp [valsB, valB, flat1]); try decide))
      exact ih1 ((i + 1), (Sp.mn a (((R1 ++ R2).getD i (0, 0)).1)), (Sp.mn b (((R1 ++ R2).getD i (0, 0)).2)), (Sp.mx c (((R1 ++ R2).getD i (0, 0)).1)), (Sp.mx d (((R1 ++ R2).getD i (0, 0)).2))) (show ((i + 1) ≤ (R1.length + R2.length)) ∧ ((Sp.mn a (((R1 ++ R2).getD i (0, 0)).1)) = (Sp.bxr (R1 ++ R2) (i + 1)).1) ∧ ((Sp.mn b (((R1 ++ R2).getD i (0, 0)).2)) = (Sp.bxr (R1 ++ R2) (i + 1)).2.1) ∧ ((Sp.mx c (((R1 ++ R2).getD i (0, 0)).1)) = (Sp.bxr (R1 ++ R2) (i + 1)).2.2.1) ∧ ((Sp.mx d (((R1 ++ R2).getD i (0, 0)).2)) = (Sp.bxr (R1 ++ R2) (i + 1)).2.2.2) from ⟨by omega, by (first | (rw [Sp.bxr_0 (by assumption)]) | (rw [Sp.bxr_n (by assumption), ← ha, ← hb, ← hc, ← hd])), by (first | (rw [Sp.bxr_0 (by assumption)]) | (rw [Sp.bxr_n (by assumption), ← ha, ← hb, ← hc, ← hd])), by (first | (rw [Sp.bxr_0 (by assumption)]) | (rw [Sp.bxr_n (by assumption), ← ha, ← hb, ← hc, ← hd])), by (first | (rw [Sp.bxr_0 (by assumption)]) | (rw [Sp.bxr_n (by assumption), ← ha, ← hb, ← hc, ← hd]))⟩) (show (R1.length + R2.length) - (i + 1) < (R1.length + R2.length) - i from by omega)
  · have h1p : ¬ ((((i : Nat) : Int) < (((R1.length + R2.length) : Nat) : Int))) := by first | (simpa using h1) | (have h1q := h1; simp at h1q; omega) | (have h1q := bx2 h1; simp at h1q; omega)
    have hl : i = (R1 ++ R2).length := by omega
    have ha' : a = (Sp.bxr (R1 ++ R2) ((R1 ++ R2).length)).1 := by rw [ha, hl]
    have hb' : b = (Sp.bxr (R1 ++ R2) ((R1 ++ R2).length)).2.1 := by rw [hb, hl]
    have hc' : c = (Sp.bxr (R1 ++ R2) ((R1 ++ R2).length)).2.2.1 := by rw [hc, hl]
    have hd' : d = (Sp.bxr (R1 ++ R2) ((R1 ++ R2).length)).2.2.2 := by rw [hd, hl]
    refine aw_ex 0 ?_
    refine then_exit ?_
    refine then_exit ?_
    refine block_exit ?_
    refine then_normal ?_
    refine aw_p 31 (
      .a 2 6 <| .nil _ _) ?_
    refine aw_rt ?_
    exact en_ret [.agg #[.int .i64 a, .int .i64 b, .int .i64 c, .int .i64 d]] (show (.agg #[.int .i64 a, .int .i64 b, .int .i64 c, .int .i64 d] : Value) = (.agg #[.int .i64 ((Sp.bxr (R1 ++ R2) ((R1 ++ R2).length)).1), .int .i64 ((Sp.bxr (R1 ++ R2) ((R1 ++ R2).length)).2.1), .int .i64 ((Sp.bxr (R1 ++ R2) ((R1 ++ R2).length)).2.2.1), .int .i64 ((Sp.bxr (R1 ++ R2) ((R1 ++ R2).length)).2.2.2)]) from (congrArg (fun z : List Value => Value.agg z.toArray) (lcons (congrArg (Value.int .i64) (show a = ((Sp.bxr (R1 ++ R2) ((R1 ++ R2).length)).1) from by (first | exact ha' | exact hb' | exact hc' | exact hd'))) (lcons (congrArg (Value.int .i64) (show b = ((Sp.bxr (R1 ++ R2) ((R1 ++ R2).length)).2.1) from by (first | exact ha' | exact hb' | exact hc' | exact hd'))) (lcons (congrArg (Value.int .i64) (show c = ((Sp.bxr (R1 ++ R2) ((R1 ++ R2).length)).2.2.1) from by (first | exact ha' | exact hb' | exact hc' | exact hd'))) (lcons (congrArg (Value.int .i64) (show d = ((Sp.bxr (R1 ++ R2) ((R1 ++ R2).length)).2.2.2) from by (first | exact ha' | exact hb' | exact hc' | exact hd'))) rfl))))))
theorem abox_3 (R1 R2 R3 : List (Int × Int)) (zR1 : 1 ≤ R1.length ∧ R1.length ≤ 200) (fR1 : Sp.Few 1000 R1) (zR2 : 1 ≤ R2.length ∧ R2.length ≤ 200) (fR2 : Sp.Few 1000 R2) (zR3 : 1 ≤ R3.length ∧ R3.length ≤ 200) (fR3 : Sp.Few 1000 R3) :
    AC Tryz.prog 11 4 ([sV 0 3]) [(0, ⟨[sV 1 R1.length, sV 2 R2.length, sV 3 R3.length], 39, true, 1⟩), (1, (pB R1)), (2, (pB R2)), (3, (pB R3))] (.agg #[.int .i64 ((Sp.bxr ((R1 ++ R2) ++ R3) (((R1 ++ R2) ++ R3).length)).1), .int .i64 ((Sp.bxr ((R1 ++ R2) ++ R3) (((R1 ++ R2) ++ R3).length)).2.1), .int .i64 ((Sp.bxr ((R1 ++ R2) ++ R3) (((R1 ++ R2) ++ R3).length)).2.2.1), .int .i64 ((Sp.bxr ((R1 ++ R2) ++ R3) (((R1 ++ R2) ++ R3).length)).2.2.2)]) [(0, ⟨[sV 1 R1.length, sV 2 R2.length, sV 3 R3.length], 39, true, 1⟩), (1, (pB R1)), (2, (pB R2)), (3, (pB R3))] := by
  have hN : ((R1 ++ R2) ++ R3).length = (R1.length + R2.length + R3.length) := by simp only [List.length_append]
  refine ac_in Tryz.func11 (fun w0 W pin => ?_)
  refine aw_p 3 (
    .a 1 4 <| .nil _ _) ?_
  refine aw_p 7 (
    .a 1 5 <| .nil _ _) ?_
  refine aw_sq 14 15 ?_
  refine aw_p 29 (
    .a 1 6 <|
    .p (cF #[.tmp 6] #[24] [sV 0 3] 1 [0, 1, 2, 3, 6] [(0, ⟨[sV 1 R1.length, sV 2 R2.length, sV 3 R3.length], 39, true, 1⟩), (1, (pB R1)), (2, (pB R2)), (3, (pB R3))] [(0, ⟨[sV 1 R1.length, sV 2 R2.length, sV 3 R3.length], 39, true, 1⟩), (1, (pB R1)), (2, (pB R2)), (3, (pB R3)), (6, (pB ((R1 ++ R2) ++ R3)))] (sV 6 (R1.length + R2.length + R3.length)) (concat3_ok R1 R2 R3 zR1 fR1 zR2 fR2 zR3 fR3) (.cons rS .nil) ⟨rfl, ⟨rfl, rfl, rfl, (.cons rS (.cons rS (.cons rS .nil)))⟩, rfl, bP, rfl, bP, rfl, bP, trivial⟩ ⟨rfl, ⟨rfl, rfl, rfl, (.cons rS (.cons rS (.cons rS .nil)))⟩, rfl, bP, rfl, bP, rfl, bP, rfl, bP, trivial⟩ rS) <|
    .a 2 7 <| .nil _ _) ?_
  refine aw_bl 0 59 ?_
  refine aw_lp 119 ?_
  refine al_w [(2, .pointer (some ⟨4, 0, none⟩)), (3, .pointer (some ⟨5, 0, none⟩)), (7, sV 6 (R1.length + R2.length + R3.length)), (8, .int .i64 (((R1.length + R2.length + R3.length) : Nat) : Int)), (9, .int .i64 ((0 : Nat) : Int))] [(0, ⟨[sV 1 R1.length, sV 2 R2.length, sV 3 R3.length], 39, true, 1⟩), (1, (pB R1)), (2, (pB R2)), (3, (pB R3)), (4, ⟨[.int .i64 0, .int .i64 0, .int .i64 0, .int .i64 0], 36, true, 4⟩), (5, ⟨[.int .i64 0, .int .i64 0, .int .i64 0, .int .i64 0], 36, true, 4⟩), (6, (pB ((R1 ++ R2) ++ R3)))] ?_ (hc := (by simp [closedB, valsB, valB, List.all_eq_true, List.mem_flatMap, List.mem_range, List.mem_map, i64v, ptc, flat1]; try (intros; simp [valsB, valB, flat1]); try decide))
  refine al_ind (fun i : Nat × Int × Int × Int × Int => (fun (i : Nat) (a : Int) (b : Int) (c : Int) (d : Int) => mkSt 4 [(2, .pointer (some ⟨4, 0, none⟩)), (3, .pointer (some ⟨5, 0, none⟩)), (7, sV 6 (R1.length + R2.length + R3.length)), (8, .int .i64 (((R1.length + R2.length + R3.length) : Nat) : Int)), (9, .int .i64 ((i : Nat) : Int))] [(0, ⟨[sV 1 R1.length, sV 2 R2.length, sV 3 R3.length], 39, true, 1⟩), (1, (pB R1)), (2, (pB R2)), (3, (pB R3)), (4, ⟨[.int .i64 0, .int .i64 0, .int .i64 0, .int .i64 0], 36, true, 4⟩), (5, ⟨[.int .i64 a, .int .i64 b, .int .i64 c, .int .i64 d], 36, true, 4⟩), (6, (pB ((R1 ++ R2) ++ R3)))]) i.1 i.2.1 i.2.2.1 i.2.2.2.1 i.2.2.2.2) (fun i : Nat × Int × Int × Int × Int => (fun (i : Nat) (a : Int) (b : Int) (c : Int) (d : Int) => (i ≤ (R1.length + R2.length + R3.length)) ∧ (a = (Sp.bxr ((R1 ++ R2) ++ R3) i).1) ∧ (b = (Sp.bxr ((R1 ++ R2) ++ R3) i).2.1) ∧ (c = (Sp.bxr ((R1 ++ R2) ++ R3) i).2.2.1) ∧ (d = (Sp.bxr ((R1 ++ R2) ++ R3) i).2.2.2)) i.1 i.2.1 i.2.2.1 i.2.2.2.1 i.2.2.2.2) (fun i : Nat × Int × Int × Int × Int => (fun (i : Nat) (a : Int) (b : Int) (c : Int) (d : Int) => (R1.length + R2.length + R3.length) - i) i.1 i.2.1 i.2.2.1 i.2.2.2.1 i.2.2.2.2) (fun i hi1 ih1 => ?_) (0, 0, 0, 0, 0) (show (0 ≤ (R1.length + R2.length + R3.length)) ∧ (0 = (Sp.bxr ((R1 ++ R2) ++ R3) 0).1) ∧ (0 = (Sp.bxr ((R1 ++ R2) ++ R3) 0).2.1) ∧ (0 = (Sp.bxr ((R1 ++ R2) ++ R3) 0).2.2.1) ∧ (0 = (Sp.bxr ((R1 ++ R2) ++ R3) 0).2.2.2) from ⟨by omega, by rfl, by rfl, by rfl, by rfl⟩)
  obtain ⟨i, a, b, c, d⟩ := i
  have hi1' : (i ≤ (R1.length + R2.length + R3.length)) ∧ (a = (Sp.bxr ((R1 ++ R2) ++ R3) i).1) ∧ (b = (Sp.bxr ((R1 ++ R2) ++ R3) i).2.1) ∧ (c = (Sp.bxr ((R1 ++ R2) ++ R3) i).2.2.1) ∧ (d = (Sp.bxr ((R1 ++ R2) ++ R3) i).2.2.2) := hi1
  obtain ⟨hi, ha, hb, hc, hd⟩ := hi1'
  show AL _ _ _ (mkSt 4 [(2, .pointer (some ⟨4, 0, none⟩)), (3, .pointer (some ⟨5, 0, none⟩)), (7, sV 6 (R1.length + R2.length + R3.length)), (8, .int .i64 (((R1.length + R2.length + R3.length) : Nat) : Int)), (9, .int .i64 ((i : Nat) : Int))] [(0, ⟨[sV 1 R1.length, sV 2 R2.length, sV 3 R3.length], 39, true, 1⟩), (1, (pB R1)), (2, (pB R2)), (3, (pB R3)), (4, ⟨[.int .i64 0, .int .i64 0, .int .i64 0, .int .i64 0], 36, true, 4⟩), (5, ⟨[.int .i64 a, .int .i64 b, .int .i64 c, .int .i64 d], 36, true, 4⟩), (6, (pB ((R1 ++ R2) ++ R3)))]) _
  refine al_round ?_
  refine aw_p 239 (
    .a 1 7 <| .nil _ _) ?_
  refine aw_sq 478 479 ?_
  refine aw_cd 956 957 (decide (((i : Nat) : Int) < (((R1.length + R2.length + R3.length) : Nat) : Int))) (fun h1 => ?_) (fun h1 => ?_)
  · have h1p : ((((i : Nat) : Int) < (((R1.length + R2.length + R3.length) : Nat) : Int))) := by first | (simpa using h1) | (have h1q := h1; simp at h1q; omega) | (have h1q := bx1 h1; simp at h1q; omega)
    refine aw_sk ?_
    refine then_normal ?_
    refine aw_sq 958 959 ?_
    refine aw_bl 1 1917 ?_
    refine aw_p 3835 (
      .a 1 7 <| .p (does_indexSlice (t := 39) (x := .tmp 7) (y := .tmp 9) (k := 6) (off := 0) (n := (R1.length + R2.length + R3.length)) (c := 0) (z := 2) (kd := .i64) (j := ((i : Nat) : Int)) (by kernel_rfl) (by kernel_rfl) (by kernel_rfl) (by kernel_rfl) (by kernel_rfl) (by omega) (by omega)) <|
      .p (does_load (t := 28) (x := .tmp 12) (k := 6) (off := (0 + (((i : Nat) : Int)).toNat * 2)) (b := (pB ((R1 ++ R2) ++ R3))) (v := .agg #[.int .i64 ((((R1 ++ R2) ++ R3).getD i (0, 0)).1), .int .i64 ((((R1 ++ R2) ++ R3).getD i (0, 0)).2)]) (by kernel_rfl) (by kernel_rfl) (by kernel_rfl) (ldV_pair (j := i) (by kernel_rfl) (by kernel_rfl) (by omega) (by first | omega | (simp only [List.length_append]; omega)))) <|
      .a 3 7 <| .nil _ _) ?_
    refine aw_sq 7670 7671 ?_
    refine aw_p 15341 (
      .a 2 8 <| .nil _ _) ?_
    refine aw_cd 30682 30683 (((i : Nat) : Int) == 0) (fun h2 => ?_) (fun h2 => ?_)
    · have h2p : ((((i : Nat) : Int) = 0)) := by first | (simpa using h2) | (have h2q := h2; simp at h2q; omega) | (have h2q := bx1 h2; simp at h2q; omega)
      have h0 :  i = 0 := by first | (have q := h2; simp at q; omega)
      refine aw_p1 (
        .a 4 8 <| .nil _ _) ?_
      refine then_normal ?_
      refine aw_p 15343 (
        .a 15 8 <| .nil _ _) ?_
      refine aw_p1 (
        .a 15 8 <| .nil _ _) ?_
      refine block_normal ?_
      refine then_normal ?_
      refine aw_p1 (
        .p (does_i (((i : Nat) : Int) + 1) (wrap_i64 (by omega) (by omega)) .i64) <| .a 1 8 <| .nil _ _) ?_
      refine then_normal ?_
      refine al_w [(2, .pointer (some ⟨4, 0, none⟩)), (3, .pointer (some ⟨5, 0, none⟩)), (7, sV 6 (R1.length + R2.length + R3.length)), (8, .int .i64 (((R1.length + R2.length + R3.length) : Nat) : Int)), (9, .int .i64 (((i + 1) : Nat) : Int))] [(0, ⟨[sV 1 R1.length, sV 2 R2.length, sV 3 R3.length], 39, true, 1⟩), (1, (pB R1)), (2, (pB R2)), (3, (pB R3)), (4, ⟨[.int .i64 0, .int .i64 0, .int .i64 0, .int .i64 0], 36, true, 4⟩), (5, ⟨[.int .i64 (Sp.mn ((((R1 ++ R2) ++ R3).getD i (0, 0)).1) ((((R1 ++ R2) ++ R3).getD i (0, 0)).1)), .int .i64 (Sp.mn ((((R1 ++ R2) ++ R3).getD i (0, 0)).2) ((((R1 ++ R2) ++ R3).getD i (0, 0)).2)), .int .i64 (Sp.mx ((((R1 ++ R2) ++ R3).getD i (0, 0)).1) ((((R1 ++ R2) ++ R3).getD i (0, 0)).1)), .int .i64 (Sp.mx ((((R1 ++ R2) ++ R3).getD i (0, 0)).2) ((((R1 ++ R2) ++ R3).getD i (0, 0)).2))], 36, true, 4⟩), (6, (pB ((R1 ++ R2) ++ R3)))] ?_ (hc := (by simp [closedB, valsB, valB, List.all_eq_true, List.mem_flatMap, List.mem_range, List.mem_map, i64v, ptc, flat1]; try (intros; simp [valsB, valB, flat1]); try decide))
      exact ih1 ((i + 1), (Sp.mn ((((R1 ++ R2) ++ R3).getD i (0, 0)).1) ((((R1 ++ R2) ++ R3).getD i (0, 0)).1)), (Sp.mn ((((R1 ++ R2) ++ R3).getD i (0, 0)).2) ((((R1 ++ R2) ++ R3).getD i (0, 0)).2)), (Sp.mx ((((R1 ++ R2) ++ R3).getD i (0, 0)).1) ((((R1 ++ R2) ++ R3).getD i (0, 0)).1)), (Sp.mx ((((R1 ++ R2) ++ R3).getD i (0, 0)).2) ((((R1 ++ R2) ++ R3).getD i (0, 0)).2))) (show ((i + 1) ≤ (R1.length + R2.length + R3.length)) ∧ ((Sp.mn ((((R1 ++ R2) ++ R3).getD i (0, 0)).1) ((((R1 ++ R2) ++ R3).getD i (0, 0)).1)) = (Sp.bxr ((R1 ++ R2) ++ R3) (i + 1)).1) ∧ ((Sp.mn ((((R1 ++ R2) ++ R3).getD i (0, 0)).2) ((((R1 ++ R2) ++ R3).getD i (0, 0)).2)) = (Sp.bxr ((R1 ++ R2) ++ R3) (i + 1)).2.1) ∧ ((Sp.mx ((((R1 ++ R2) ++ R3).getD i (0, 0)).1) ((((R1 ++ R2) ++ R3).getD i (0, 0)).1)) = (Sp.bxr ((R1 ++ R2) ++ R3) (i + 1)).2.2.1) ∧ ((Sp.mx ((((R1 ++ R2) ++ R3).getD i (0, 0)).2) ((((R1 ++ R2) ++ R3).getD i (0, 0)).2)) = (Sp.bxr ((R1 ++ R2) ++ R3) (i + 1)).2.2.2) from ⟨by omega, by (first | (rw [Sp.bxr_0 (by assumption)]) | (rw [Sp.bxr_n (by assumption), ← ha, ← hb, ← hc, ← hd])), by (first | (rw [Sp.bxr_0 (by assumption)]) | (rw [Sp.bxr_n (by assumption), ← ha, ← hb, ← hc, ← hd])), by (first | (rw [Sp.bxr_0 (by assumption)]) | (rw [Sp.bxr_n (by assumption), ← ha, ← hb, ← hc, ← hd])), by (first | (rw [Sp.bxr_0 (by assumption)]) | (rw [Sp.bxr_n (by assumption), ← ha, ← hb, ← hc, ← hd]))⟩) (show (R1.length + R2.length + R3.length) - (i + 1) < (R1.length + R2.length + R3.length) - i from by omega)
    · have h2p : ¬ ((((i : Nat) : Int) = 0)) := by first | (simpa using h2) | (have h2q := h2; simp at h2q; omega) | (have h2q := bx2 h2; simp at h2q; omega)
      have h0 : ¬ i = 0 := by first | (have q := h2; simp at q; omega)
      refine aw_sk ?_
      refine then_normal ?_
      refine aw_p 15343 (
        .a 15 8 <| .nil _ _) ?_
      refine aw_p1 (
        .a 15 8 <| .nil _ _) ?_
      refine block_normal ?_
      refine then_normal ?_
      refine aw_p1 (
        .p (does_i (((i : Nat) : Int) + 1) (wrap_i64 (by omega) (by omega)) .i64) <| .a 1 8 <| .nil _ _) ?_
      refine then_normal ?_
      refine al_w [(2, .pointer (some ⟨4, 0, none⟩)), (3, .pointer (some ⟨5, 0, none⟩)), (7, sV 6 (R1.length + R2.length + R3.length)), (8, .int .i64 (((R1.length + R2.length + R3.length) : Nat) : Int)), (9, .int .i64 (((i + 1) : Nat) : Int))] [(0, ⟨[sV 1 R1.length, sV 2 R2.length, sV 3 R3.length], 39, true, 1⟩), (1, (pB R1)), (2, (pB R2)), (3, (pB R3)), (4, ⟨[.int .i64 0, .int .i64 0, .int .i64 0, .int .i64 0], 36, true, 4⟩), (5, ⟨[.int .i64 (Sp.mn a ((((R1 ++ R2) ++ R3).getD i (0, 0)).1)), .int .i64 (Sp.mn b ((((R1 ++ R2) ++ R3).getD i (0, 0)).2)), .int .i64 (Sp.mx c ((((R1 ++ R2) ++ R3).getD i (0, 0)).1)), .int .i64 (Sp.mx d ((((R1 ++ R2) ++ R3).getD i (0, 0)).2))], 36, true, 4⟩), (6, (pB ((R1 ++ R2) ++ R3)))] ?_ (hc := (by simp [closedB, valsB, valB, List.all_eq_true, List.mem_flatMap, List.mem_range, List.mem_map, i64v, ptc, flat1]; try (intros; simp [valsB, valB, flat1]); try decide))
      exact ih1 ((i + 1), (Sp.mn a ((((R1 ++ R2) ++ R3).getD i (0, 0)).1)), (Sp.mn b ((((R1 ++ R2) ++ R3).getD i (0, 0)).2)), (Sp.mx c ((((R1 ++ R2) ++ R3).getD i (0, 0)).1)), (Sp.mx d ((((R1 ++ R2) ++ R3).getD i (0, 0)).2))) (show ((i + 1) ≤ (R1.length + R2.length + R3.length)) ∧ ((Sp.mn a ((((R1 ++ R2) ++ R3).getD i (0, 0)).1)) = (Sp.bxr ((R1 ++ R2) ++ R3) (i + 1)).1) ∧ ((Sp.mn b ((((R1 ++ R2) ++ R3).getD i (0, 0)).2)) = (Sp.bxr ((R1 ++ R2) ++ R3) (i + 1)).2.1) ∧ ((Sp.mx c ((((R1 ++ R2) ++ R3).getD i (0, 0)).1)) = (Sp.bxr ((R1 ++ R2) ++ R3) (i + 1)).2.2.1) ∧ ((Sp.mx d ((((R1 ++ R2) ++ R3).getD i (0, 0)).2)) = (Sp.bxr ((R1 ++ R2) ++ R3) (i + 1)).2.2.2) from ⟨by omega, by (first | (rw [Sp.bxr_0 (by assumption)]) | (rw [Sp.bxr_n (by assumption), ← ha, ← hb, ← hc, ← hd])), by (first | (rw [Sp.bxr_0 (by assumption)]) | (rw [Sp.bxr_n (by assumption), ← ha, ← hb, ← hc, ← hd])), by (first | (rw [Sp.bxr_0 (by assumption)]) | (rw [Sp.bxr_n (by assumption), ← ha, ← hb, ← hc, ← hd])), by (first | (rw [Sp.bxr_0 (by assumption)]) | (rw [Sp.bxr_n (by assumption), ← ha, ← hb, ← hc, ← hd]))⟩) (show (R1.length + R2.length + R3.length) - (i + 1) < (R1.length + R2.length + R3.length) - i from by omega)
  · have h1p : ¬ ((((i : Nat) : Int) < (((R1.length + R2.length + R3.length) : Nat) : Int))) := by first | (simpa using h1) | (have h1q := h1; simp at h1q; omega) | (have h1q := bx2 h1; simp at h1q; omega)
    have hl : i = ((R1 ++ R2) ++ R3).length := by omega
    have ha' : a = (Sp.bxr ((R1 ++ R2) ++ R3) (((R1 ++ R2) ++ R3).length)).1 := by rw [ha, hl]
    have hb' : b = (Sp.bxr ((R1 ++ R2) ++ R3) (((R1 ++ R2) ++ R3).length)).2.1 := by rw [hb, hl]
    have hc' : c = (Sp.bxr ((R1 ++ R2) ++ R3) (((R1 ++ R2) ++ R3).length)).2.2.1 := by rw [hc, hl]
    have hd' : d = (Sp.bxr ((R1 ++ R2) ++ R3) (((R1 ++ R2) ++ R3).length)).2.2.2 := by rw [hd, hl]
    refine aw_ex 0 ?_
    refine then_exit ?_
    refine then_exit ?_
    refine block_exit ?_
    refine then_normal ?_
    refine aw_p 31 (
      .a 2 7 <| .nil _ _) ?_
    refine aw_rt ?_
    exact en_ret [.agg #[.int .i64 a, .int .i64 b, .int .i64 c, .int .i64 d]] (show (.agg #[.int .i64 a, .int .i64 b, .int .i64 c, .int .i64 d] : Value) = (.agg #[.int .i64 ((Sp.bxr ((R1 ++ R2) ++ R3) (((R1 ++ R2) ++ R3).length)).1), .int .i64 ((Sp.bxr ((R1 ++ R2) ++ R3) (((R1 ++ R2) ++ R3).length)).2.1), .int .i64 ((Sp.bxr ((R1 ++ R2) ++ R3) (((R1 ++ R2) ++ R3).length)).2.2.1), .int .i64 ((Sp.bxr ((R1 ++ R2) ++ R3) (((R1 ++ R2) ++ R3).length)).2.2.2)]) from (congrArg (fun z : List Value => Value.agg z.toArray) (lcons (congrArg (Value.int .i64) (show a = ((Sp.bxr ((R1 ++ R2) ++ R3) (((R1 ++ R2) ++ R3).length)).1) from by (first | exact ha' | exact hb' | exact hc' | exact hd'))) (lcons (congrArg (Value.int .i64) (show b = ((Sp.bxr ((R1 ++ R2) ++ R3) (((R1 ++ R2) ++ R3).length)).2.1) from by (first | exact ha' | exact hb' | exact hc' | exact hd'))) (lcons (congrArg (Value.int .i64) (show c = ((Sp.bxr ((R1 ++ R2) ++ R3) (((R1 ++ R2) ++ R3).length)).2.2.1) from by (first | exact ha' | exact hb' | exact hc' | exact hd'))) (lcons (congrArg (Value.int .i64) (show d = ((Sp.bxr ((R1 ++ R2) ++ R3) (((R1 ++ R2) ++ R3).length)).2.2.2) from by (first | exact ha' | exact hb' | exact hc' | exact hd'))) rfl))))))
end Go.Proofs.YtndkhgfecnbmnaaGreat.Am

namespace Go.Proofs.YtndkhgfecnbmnaaGreat.Am
open Go Go.Proofs
set_option maxRecDepth 100000
set_option maxHeartbeats 4000000
set_option linter.unusedVariables false
set_option linter.unusedSimpArgs false
theorem aclone_1 (R1 : List (Int × Int)) (zR1 : 1 ≤ R1.length ∧ R1.length ≤ 200) (fR1 : Sp.Few 1000 R1) :
    AC Tryz.prog 13 2 ([sV 0 1]) [(0, ⟨[sV 1 R1.length], 39, true, 1⟩), (1, (pB R1))] (sV 2 1) [(0, ⟨[sV 1 R1.length], 39, true, 1⟩), (1, (pB R1)), (2, ⟨[sV 1 R1.length], 39, true, 1⟩)] := by
  refine ac_in Tryz.func13 (fun w0 W pin => ?_)
  refine aw_p 3 (
    .a 1 2 <| .nil _ _) ?_
  refine aw_sq 6 7 ?_
  refine aw_p 13 (
    .a 1 2 <| .p (does_sln (k := 0) (off := 0) (n := 1) (c := 0) (by kernel_rfl) (by omega)) <| .nil _ _) ?_
  refine aw_fl 27 ?_
  refine aw_sk ?_
  refine then_normal ?_
  refine aw_p 15 (
    .a 2 2 <| .p (does_ap 3) <| .a 1 4 <| .nil _ _) ?_
  refine aw_r [(2, 3)] [(2, sV 3 1)] [(0, ⟨[sV 1 R1.length], 39, true, 1⟩), (1, (pB R1)), (3, ⟨[sV 1 R1.length], 39, true, 1⟩)] [(2, sV 2 1)] [(0, ⟨[sV 1 R1.length], 39, true, 1⟩), (1, (pB R1)), (2, ⟨[sV 1 R1.length], 39, true, 1⟩)] ?_ ⟨rfl, (rK rfl), trivial⟩ ⟨rfl, ⟨rfl, rfl, rfl, (.cons (rK rfl) .nil)⟩, rfl, ⟨rfl, rfl, rfl, (.flats (flats_pair _))⟩, rfl, ⟨rfl, rfl, rfl, (.cons (rK rfl) .nil)⟩, trivial⟩
  refine aw_rt ?_
  exact en_ret [sV 2 1] (by kernel_rfl)
theorem aclone_2 (R1 R2 : List (Int × Int)) (zR1 : 1 ≤ R1.length ∧ R1.length ≤ 200) (fR1 : Sp.Few 1000 R1) (zR2 : 1 ≤ R2.length ∧ R2.length ≤ 200) (fR2 : Sp.Few 1000 R2) :
    AC Tryz.prog 13 3 ([sV 0 2]) [(0, ⟨[sV 1 R1.length, sV 2 R2.length], 39, true, 1⟩), (1, (pB R1)), (2, (pB R2))] (sV 3 2) [(0, ⟨[sV 1 R1.length, sV 2 R2.length], 39, true, 1⟩), (1, (pB R1)), (2, (pB R2)), (3, ⟨[sV 1 R1.length, sV 2 R2.length], 39, true, 1⟩)] := by
  refine ac_in Tryz.func13 (fun w0 W pin => ?_)
  refine aw_p 3 (
    .a 1 3 <| .nil _ _) ?_
  refine aw_sq 6 7 ?_
  refine aw_p 13 (
    .a 1 3 <| .p (does_sln (k := 0) (off := 0) (n := 2) (c := 0) (by kernel_rfl) (by omega)) <| .nil _ _) ?_
  refine aw_fl 27 ?_
  refine aw_sk ?_
  refine then_normal ?_
  refine aw_p 15 (
    .a 2 3 <| .p (does_ap 4) <| .a 1 5 <| .nil _ _) ?_
  refine aw_r [(3, 4)] [(2, sV 4 2)] [(0, ⟨[sV 1 R1.length, sV 2 R2.length], 39, true, 1⟩), (1, (pB R1)), (2, (pB R2)), (4, ⟨[sV 1 R1.length, sV 2 R2.length], 39, true, 1⟩)] [(2, sV 3 2)] [(0, ⟨[sV 1 R1.length, sV 2 R2.length], 39, true, 1⟩), (1, (pB R1)), (2, (pB R2)), (3, ⟨[sV 1 R1.length, sV 2 R2.length], 39, true, 1⟩)] ?_ ⟨rfl, (rK rfl), trivial⟩ ⟨rfl, ⟨rfl, rfl, rfl, (.cons (rK rfl) (.cons (rK rfl) .nil))⟩, rfl, ⟨rfl, rfl, rfl, (.flats (flats_pair _))⟩, rfl, ⟨rfl, rfl, rfl, (.flats (flats_pair _))⟩, rfl, ⟨rfl, rfl, rfl, (.cons (rK rfl) (.cons (rK rfl) .nil))⟩, trivial⟩
  refine aw_rt ?_
  exact en_ret [sV 3 2] (by kernel_rfl)
theorem aclone_3 (R1 R2 R3 : List (Int × Int)) (zR1 : 1 ≤ R1.length ∧ R1.length ≤ 200) (fR1 : Sp.Few 1000 R1) (zR2 : 1 ≤ R2.length ∧ R2.length ≤ 200) (fR2 : Sp.Few 1000 R2) (zR3 : 1 ≤ R3.length ∧ R3.length ≤ 200) (fR3 : Sp.Few 1000 R3) :
    AC Tryz.prog 13 4 ([sV 0 3]) [(0, ⟨[sV 1 R1.length, sV 2 R2.length, sV 3 R3.length], 39, true, 1⟩), (1, (pB R1)), (2, (pB R2)), (3, (pB R3))] (sV 4 3) [(0, ⟨[sV 1 R1.length, sV 2 R2.length, sV 3 R3.length], 39, true, 1⟩), (1, (pB R1)), (2, (pB R2)), (3, (pB R3)), (4, ⟨[sV 1 R1.length, sV 2 R2.length, sV 3 R3.length], 39, true, 1⟩)] := by
  refine ac_in Tryz.func13 (fun w0 W pin => ?_)
  refine aw_p 3 (
    .a 1 4 <| .nil _ _) ?_
  refine aw_sq 6 7 ?_
  refine aw_p 13 (
    .a 1 4 <| .p (does_sln (k := 0) (off := 0) (n := 3) (c := 0) (by kernel_rfl) (by omega)) <| .nil _ _) ?_
  refine aw_fl 27 ?_
  refine aw_sk ?_
  refine then_normal ?_
  refine aw_p 15 (
    .a 2 4 <| .p (does_ap 5) <| .a 1 6 <| .nil _ _) ?_
  refine aw_r [(4, 5)] [(2, sV 5 3)] [(0, ⟨[sV 1 R1.length, sV 2 R2.length, sV 3 R3.length], 39, true, 1⟩), (1, (pB R1)), (2, (pB R2)), (3, (pB R3)), (5, ⟨[sV 1 R1.length, sV 2 R2.length, sV 3 R3.length], 39, true, 1⟩)] [(2, sV 4 3)] [(0, ⟨[sV 1 R1.length, sV 2 R2.length, sV 3 R3.length], 39, true, 1⟩), (1, (pB R1)), (2, (pB R2)), (3, (pB R3)), (4, ⟨[sV 1 R1.length, sV 2 R2.length, sV 3 R3.length], 39, true, 1⟩)] ?_ ⟨rfl, (rK rfl), trivial⟩ ⟨rfl, ⟨rfl, rfl, rfl, (.cons (rK rfl) (.cons (rK rfl) (.cons (rK rfl) .nil)))⟩, rfl, ⟨rfl, rfl, rfl, (.flats (flats_pair _))⟩, rfl, ⟨rfl, rfl, rfl, (.flats (flats_pair _))⟩, rfl, ⟨rfl, rfl, rfl, (.flats (flats_pair _))⟩, rfl, ⟨rfl, rfl, rfl, (.cons (rK rfl) (.cons (rK rfl) (.cons (rK rfl) .nil)))⟩, trivial⟩
  refine aw_rt ?_
  exact en_ret [sV 4 3] (by kernel_rfl)
end Go.Proofs.YtndkhgfecnbmnaaGreat.Am

set_option linter.unusedVariables false
set_option linter.unusedSimpArgs false
namespace Go.Proofs.YtndkhgfecnbmnaaGreat.Am.Sp
theorem grow_k {k : Int} (h0 : -30 ≤ k) (h1 : k ≤ 30) : mx (-4194304) (mn k 4194304) = k := by unfold mx mn; (repeat' split) <;> omega
theorem lim_small {x : Int} (h0 : -1000 ≤ x) (h1 : x ≤ 1000) : lim 1048576 x = x := lim_id (by omega) (by omega)
end Go.Proofs.YtndkhgfecnbmnaaGreat.Am.Sp
