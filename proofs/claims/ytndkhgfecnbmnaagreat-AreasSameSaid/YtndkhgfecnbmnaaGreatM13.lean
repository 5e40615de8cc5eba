import Derived.Test.YtndkhgfecnbmnaaGreatProg
import Derived.Test.YtndkhgfecnbmnaaGreatM2
import Derived.Test.YtndkhgfecnbmnaaGreatM12
import Derived.Test.YtndkhgfecnbmnaaGreatM11
import Derived.Test.YtndkhgfecnbmnaaGreatM3
import Derived.Test.YtndkhgfecnbmnaaGreatM4
import Derived.Test.YtndkhgfecnbmnaaGreatM10
namespace Go.Proofs.YtndkhgfecnbmnaaGreat.Am
open Go Go.Proofs
set_option maxRecDepth 100000
set_option maxHeartbeats 4000000
set_option linter.unusedVariables false
set_option linter.unusedSimpArgs false
theorem anorm_n3 (x1 y1 r1 x2 y2 r2 x3 y3 r3 : Int) (s1 : 1 ≤ r1) (u1 : r1 ≤ 20) (v1 : -40 ≤ x1 - r1 ∧ x1 + r1 ≤ 40) (w1 : -40 ≤ y1 - r1 ∧ y1 + r1 ≤ 40) (s2 : 1 ≤ r2) (u2 : r2 ≤ 20) (v2 : -40 ≤ x2 - r2 ∧ x2 + r2 ≤ 40) (w2 : -40 ≤ y2 - r2 ∧ y2 + r2 ≤ 40) (s3 : 1 ≤ r3) (u3 : r3 ≤ 20) (v3 : -40 ≤ x3 - r3 ∧ x3 + r3 ≤ 40) (w3 : -40 ≤ y3 - r3 ∧ y3 + r3 ≤ 40) (c1 : Sp.chkF (Sp.sqr x1 y1 r1) = 0) (c2 : Sp.chkF (Sp.hol x2 y2 r2) = 0) (c3 : Sp.chkF (Sp.sqr x3 y3 r3) = 0) (F21 : Sp.Fit (Sp.hol x2 y2 r2) (Sp.sqr x1 y1 r1) 1 (-1)) (F31 : Sp.Fit (Sp.sqr x3 y3 r3) (Sp.sqr x1 y1 r1) 1 (-1)) (F32 : Sp.Fit (Sp.sqr x3 y3 r3) (Sp.hol x2 y2 r2) 1 (-1)) (o2 : Sp.pcmp ((Sp.hol x2 y2 r2).getD 0 (0, 0)).1 ((Sp.hol x2 y2 r2).getD 0 (0, 0)).2 ((Sp.sqr x1 y1 r1).getD 0 (0, 0)).1 ((Sp.sqr x1 y1 r1).getD 0 (0, 0)).2 = 1) (o3 : Sp.pcmp ((Sp.sqr x3 y3 r3).getD 0 (0, 0)).1 ((Sp.sqr x3 y3 r3).getD 0 (0, 0)).2 ((Sp.hol x2 y2 r2).getD 0 (0, 0)).1 ((Sp.hol x2 y2 r2).getD 0 (0, 0)).2 = 1) :
    AC Tryz.prog 7 4 ([sV 0 3]) [(0, ⟨[sV 1 4, sV 2 4, sV 3 4], 39, true, 1⟩), (1, (pB (Sp.sqr x1 y1 r1))), (2, (pB (Sp.hol x2 y2 r2))), (3, (pB (Sp.sqr x3 y3 r3)))] (sV 4 3) [(0, ⟨[sV 1 4, sV 2 4, sV 3 4], 39, true, 1⟩), (1, (pB (Sp.sqr x1 y1 r1))), (2, (pB (Sp.hol x2 y2 r2))), (3, (pB (Sp.sqr x3 y3 r3))), (4, ⟨[sV 5 4, sV 6 4, sV 7 4], 39, true, 1⟩), (5, (pB (Sp.sqr x1 y1 r1))), (6, (pB (Sp.hol x2 y2 r2))), (7, (pB (Sp.sqr x3 y3 r3)))] := by
  refine ac_in Tryz.func7 (fun w0 W pin => ?_)
  refine aw_p 3 (
    .a 1 4 <| .nil _ _) ?_
  refine aw_p 7 (
    .a 1 4 <| .nil _ _) ?_
  refine aw_sq 14 15 ?_
  refine aw_p 29 (
    .a 1 4 <|
    .p (cF #[.tmp 7] #[25] [sV 0 3] 1 [0, 1, 2, 3, 4] [(0, ⟨[sV 1 4, sV 2 4, sV 3 4], 39, true, 1⟩), (1, (pB (Sp.sqr x1 y1 r1))), (2, (pB (Sp.hol x2 y2 r2))), (3, (pB (Sp.sqr x3 y3 r3)))] [(0, ⟨[sV 1 4, sV 2 4, sV 3 4], 39, true, 1⟩), (1, (pB (Sp.sqr x1 y1 r1))), (2, (pB (Sp.hol x2 y2 r2))), (3, (pB (Sp.sqr x3 y3 r3))), (4, ⟨[.int .i64 0, .int .i64 1, .int .i64 2], 3, true, 1⟩)] (sV 4 3) (adepth_n3 (Sp.sqr x1 y1 r1) (Sp.hol x2 y2 r2) (Sp.sqr x3 y3 r3) ⟨by simp [Sp.sqr, Sp.hol], by simp [Sp.sqr, Sp.hol]⟩ (Sp.few_sqr (m := 1000) (by omega) (by omega) (by omega)).1 ⟨by simp [Sp.sqr, Sp.hol], by simp [Sp.sqr, Sp.hol]⟩ (Sp.few_sqr (m := 1000) (by omega) (by omega) (by omega)).2 ⟨by simp [Sp.sqr, Sp.hol], by simp [Sp.sqr, Sp.hol]⟩ (Sp.few_sqr (m := 1000) (by omega) (by omega) (by omega)).1 c1 c2 c3 F21 F31 F32) (.cons rS .nil) ⟨rfl, ⟨rfl, rfl, rfl, (.cons rS (.cons rS (.cons rS .nil)))⟩, rfl, bP, rfl, bP, rfl, bP, trivial⟩ ⟨rfl, ⟨rfl, rfl, rfl, (.cons rS (.cons rS (.cons rS .nil)))⟩, rfl, bP, rfl, bP, rfl, bP, rfl, ⟨rfl, rfl, rfl, (.flats (by kernel_rfl))⟩, trivial⟩ rS) <|
    .a 2 5 <| .nil _ _) ?_
  refine aw_bl 0 59 ?_
  refine aw_lp 119 ?_
  refine al_round ?_
  refine aw_p 239 (
    .a 1 5 <| .nil _ _) ?_
  refine aw_sq 478 479 ?_
  refine aw_tr 956 ?_
  refine aw_sk ?_
  refine then_normal ?_
  refine aw_sq 958 959 ?_
  refine aw_bl 1 1917 ?_
  refine aw_p 3835 (
    .a 5 5 <| .nil _ _) ?_
  refine aw_p 7671 (
    .a 4 5 <|
    .p (cF #[.tmp 18] #[39] [sV 1 4] 1 [1, 5] [(1, (pB (Sp.sqr x1 y1 r1)))] [(1, (pB (Sp.sqr x1 y1 r1))), (5, (pB (Sp.sqr x1 y1 r1)))] (sV 5 4) (norm_n (Sp.sqr x1 y1 r1) (Sp.sqr x1 y1 r1) 0 4 (by simp [Sp.sqr, Sp.hol]) (by decide) (by decide) (by decide) (Sp.chk_diff c1).2 (Sp.sq_least s1).1 (Sp.sq_norm s1 u1 v1 w1).1) (.cons rS .nil) ⟨rfl, bP, trivial⟩ ⟨rfl, bP, rfl, bP, trivial⟩ rS) <|
    .a 1 6 <| .nil _ _) ?_
  refine aw_sq 15342 15343 ?_
  refine aw_p 30685 (
    .a 3 6 <| .nil _ _) ?_
  refine aw_fl 61371 ?_
  refine aw_sk ?_
  refine then_normal ?_
  refine aw_p1 (
    .a 3 6 <| .p (does_ap 7) <| .a 1 8 <| .nil _ _) ?_
  refine block_normal ?_
  refine then_normal ?_
  refine aw_p1 (
    .a 2 8 <| .nil _ _) ?_
  refine then_normal ?_
  refine al_round ?_
  refine aw_p 239 (
    .a 1 8 <| .nil _ _) ?_
  refine aw_sq 478 479 ?_
  refine aw_tr 956 ?_
  refine aw_sk ?_
  refine then_normal ?_
  refine aw_sq 958 959 ?_
  refine aw_bl 1 1917 ?_
  refine aw_p 3835 (
    .a 5 8 <| .nil _ _) ?_
  refine aw_p 7671 (
    .a 4 8 <|
    .p (cF #[.tmp 18] #[39] [sV 2 4] 1 [2, 8] [(2, (pB (Sp.hol x2 y2 r2)))] [(2, (pB (Sp.hol x2 y2 r2))), (8, (pB (Sp.sqr x2 y2 r2)))] (sV 8 4) (norm_n (Sp.hol x2 y2 r2) (Sp.sqr x2 y2 r2) 0 4 (by simp [Sp.sqr, Sp.hol]) (by decide) (by decide) (by decide) (Sp.chk_diff c2).2 (Sp.sq_least s2).2 (Sp.sq_norm s2 u2 v2 w2).2) (.cons rS .nil) ⟨rfl, bP, trivial⟩ ⟨rfl, bP, rfl, bP, trivial⟩ rS) <|
    .a 1 9 <| .nil _ _) ?_
  refine aw_sq 15342 15343 ?_
  refine aw_p 30685 (
    .a 3 9 <| .nil _ _) ?_
  refine aw_tr 61370 ?_
  refine aw_p1 (
    .a 1 9 <|
    .p (does_val (v' := .slice (some ⟨8, 2, none⟩) 3 0) (does_slice (t := 39) (x := .tmp 23) (lo := some (.const (.int .i64 1))) (hi := none) (k := 8) (off := 0) (n := 4) (c := 0) (z := 2) (l := 1) (h := ((4 : Nat) : Int)) (m := 3) (b := (pB (Sp.sqr x2 y2 r2))) (by kernel_rfl) (by kernel_rfl) (by kernel_rfl) (by kernel_rfl) (by kernel_rfl) (by kernel_rfl) (by kernel_rfl) (by kernel_rfl) (by decide) (by decide) (by decide) (by decide)) (by kernel_rfl)) <|
    .p (cF (m := 1) (args0 := [.slice (some ⟨0, 2, none⟩) 3 0]) (pre0 := [(0, (pB (Sp.sqr x2 y2 r2)))]) (post0 := [(0, (pB (Sp.hol x2 y2 r2)))]) (v0 := .tuple #[]) #[.tmp 24] #[39] [.slice (some ⟨8, 2, none⟩) 3 0] 0 [8] [(8, (pB (Sp.sqr x2 y2 r2)))] [(8, (pB (Sp.hol x2 y2 r2)))] (.tuple #[]) (revtail_ok x2 y2 r2) (.cons rS .nil) ⟨rfl, bP, trivial⟩ ⟨rfl, bP, trivial⟩ rF) <| .nil _ _) ?_
  refine then_normal ?_
  refine aw_p1 (
    .a 3 9 <| .p (does_ap 10) <| .a 1 11 <| .nil _ _) ?_
  refine block_normal ?_
  refine then_normal ?_
  refine aw_p1 (
    .a 2 11 <| .nil _ _) ?_
  refine then_normal ?_
  refine al_round ?_
  refine aw_p 239 (
    .a 1 11 <| .nil _ _) ?_
  refine aw_sq 478 479 ?_
  refine aw_tr 956 ?_
  refine aw_sk ?_
  refine then_normal ?_
  refine aw_sq 958 959 ?_
  refine aw_bl 1 1917 ?_
  refine aw_p 3835 (
    .a 5 11 <| .nil _ _) ?_
  refine aw_p 7671 (
    .a 4 11 <|
    .p (cF #[.tmp 18] #[39] [sV 3 4] 1 [3, 11] [(3, (pB (Sp.sqr x3 y3 r3)))] [(3, (pB (Sp.sqr x3 y3 r3))), (11, (pB (Sp.sqr x3 y3 r3)))] (sV 11 4) (norm_n (Sp.sqr x3 y3 r3) (Sp.sqr x3 y3 r3) 0 4 (by simp [Sp.sqr, Sp.hol]) (by decide) (by decide) (by decide) (Sp.chk_diff c3).2 (Sp.sq_least s3).1 (Sp.sq_norm s3 u3 v3 w3).1) (.cons rS .nil) ⟨rfl, bP, trivial⟩ ⟨rfl, bP, rfl, bP, trivial⟩ rS) <|
    .a 1 12 <| .nil _ _) ?_
  refine aw_sq 15342 15343 ?_
  refine aw_p 30685 (
    .a 3 12 <| .nil _ _) ?_
  refine aw_fl 61371 ?_
  refine aw_sk ?_
  refine then_normal ?_
  refine aw_p1 (
    .a 3 12 <| .p (does_ap 13) <| .a 1 14 <| .nil _ _) ?_
  refine block_normal ?_
  refine then_normal ?_
  refine aw_p1 (
    .a 2 14 <| .nil _ _) ?_
  refine then_normal ?_
  refine al_round ?_
  refine aw_p 239 (
    .a 1 14 <| .nil _ _) ?_
  refine aw_sq 478 479 ?_
  refine aw_fl 957 ?_
  refine aw_ex 0 ?_
  refine then_exit ?_
  refine then_exit ?_
  refine block_exit ?_
  refine then_normal ?_
  refine aw_p 31 (
    .a 1 14 <|
    .p (cS #[.tmp 31, .func 31] #[25, 69] [sV 13 3, .func (.func 31) #[] #[]] [13, 5, 8, 11] [(13, ⟨[sV 5 4, sV 8 4, sV 11 4], 39, true, 1⟩), (5, (pB (Sp.sqr x1 y1 r1))), (8, (pB (Sp.hol x2 y2 r2))), (11, (pB (Sp.sqr x3 y3 r3)))] (.tuple #[]) (srt_3 (Sp.sqr x1 y1 r1) (Sp.hol x2 y2 r2) (Sp.sqr x3 y3 r3) ⟨by simp [Sp.sqr, Sp.hol], by simp [Sp.sqr, Sp.hol]⟩ ⟨by simp [Sp.sqr, Sp.hol], by simp [Sp.sqr, Sp.hol]⟩ ⟨by simp [Sp.sqr, Sp.hol], by simp [Sp.sqr, Sp.hol]⟩ o2 o3) (.cons rS (.cons rF .nil)) ⟨rfl, ⟨rfl, rfl, rfl, (.cons rS (.cons rS (.cons rS .nil)))⟩, rfl, bP, rfl, bP, rfl, bP, trivial⟩ rF) <| .nil _ _) ?_
  refine aw_p 63 (
    .a 2 14 <| .nil _ _) ?_
  refine aw_r [(4, 13), (6, 8), (7, 11)] [(2, sV 13 3)] [(0, ⟨[sV 1 4, sV 2 4, sV 3 4], 39, true, 1⟩), (1, (pB (Sp.sqr x1 y1 r1))), (2, (pB (Sp.hol x2 y2 r2))), (3, (pB (Sp.sqr x3 y3 r3))), (13, ⟨[sV 5 4, sV 8 4, sV 11 4], 39, true, 1⟩), (5, (pB (Sp.sqr x1 y1 r1))), (8, (pB (Sp.hol x2 y2 r2))), (11, (pB (Sp.sqr x3 y3 r3)))] [(2, sV 4 3)] [(0, ⟨[sV 1 4, sV 2 4, sV 3 4], 39, true, 1⟩), (1, (pB (Sp.sqr x1 y1 r1))), (2, (pB (Sp.hol x2 y2 r2))), (3, (pB (Sp.sqr x3 y3 r3))), (4, ⟨[sV 5 4, sV 6 4, sV 7 4], 39, true, 1⟩), (5, (pB (Sp.sqr x1 y1 r1))), (6, (pB (Sp.hol x2 y2 r2))), (7, (pB (Sp.sqr x3 y3 r3)))] ?_ ⟨rfl, (rK rfl), trivial⟩ ⟨rfl, ⟨rfl, rfl, rfl, (.cons (rK rfl) (.cons (rK rfl) (.cons (rK rfl) .nil)))⟩, rfl, ⟨rfl, rfl, rfl, (.flats (flats_pair _))⟩, rfl, ⟨rfl, rfl, rfl, (.flats (flats_pair _))⟩, rfl, ⟨rfl, rfl, rfl, (.flats (flats_pair _))⟩, rfl, ⟨rfl, rfl, rfl, (.cons (rK rfl) (.cons (rK rfl) (.cons (rK rfl) .nil)))⟩, rfl, ⟨rfl, rfl, rfl, (.flats (flats_pair _))⟩, rfl, ⟨rfl, rfl, rfl, (.flats (flats_pair _))⟩, rfl, ⟨rfl, rfl, rfl, (.flats (flats_pair _))⟩, trivial⟩
  refine aw_rt ?_
  exact en_ret [sV 4 3] (by kernel_rfl)
end Go.Proofs.YtndkhgfecnbmnaaGreat.Am

namespace Go.Proofs.YtndkhgfecnbmnaaGreat.Am
open Go Go.Proofs
set_option maxRecDepth 100000
set_option maxHeartbeats 4000000
set_option linter.unusedVariables false
set_option linter.unusedSimpArgs false
theorem anorm_s2 (x1 y1 r1 x2 y2 r2 : Int) (s1 : 1 ≤ r1) (u1 : r1 ≤ 20) (v1 : -40 ≤ x1 - r1 ∧ x1 + r1 ≤ 40) (w1 : -40 ≤ y1 - r1 ∧ y1 + r1 ≤ 40) (s2 : 1 ≤ r2) (u2 : r2 ≤ 20) (v2 : -40 ≤ x2 - r2 ∧ x2 + r2 ≤ 40) (w2 : -40 ≤ y2 - r2 ∧ y2 + r2 ≤ 40) (c1 : Sp.chkF (Sp.sqr x1 y1 r1) = 0) (c2 : Sp.chkF (Sp.sqr x2 y2 r2) = 0) (F21 : Sp.Fit (Sp.sqr x2 y2 r2) (Sp.sqr x1 y1 r1) (-1) (-1)) (o2 : Sp.pcmp ((Sp.sqr x2 y2 r2).getD 0 (0, 0)).1 ((Sp.sqr x2 y2 r2).getD 0 (0, 0)).2 ((Sp.sqr x1 y1 r1).getD 0 (0, 0)).1 ((Sp.sqr x1 y1 r1).getD 0 (0, 0)).2 = 1) :
    AC Tryz.prog 7 3 ([sV 0 2]) [(0, ⟨[sV 1 4, sV 2 4], 39, true, 1⟩), (1, (pB (Sp.sqr x1 y1 r1))), (2, (pB (Sp.sqr x2 y2 r2)))] (sV 3 2) [(0, ⟨[sV 1 4, sV 2 4], 39, true, 1⟩), (1, (pB (Sp.sqr x1 y1 r1))), (2, (pB (Sp.sqr x2 y2 r2))), (3, ⟨[sV 4 4, sV 5 4], 39, true, 1⟩), (4, (pB (Sp.sqr x1 y1 r1))), (5, (pB (Sp.sqr x2 y2 r2)))] := by
  refine ac_in Tryz.func7 (fun w0 W pin => ?_)
  refine aw_p 3 (
    .a 1 3 <| .nil _ _) ?_
  refine aw_p 7 (
    .a 1 3 <| .nil _ _) ?_
  refine aw_sq 14 15 ?_
  refine aw_p 29 (
    .a 1 3 <|
    .p (cF #[.tmp 7] #[25] [sV 0 2] 1 [0, 1, 2, 3] [(0, ⟨[sV 1 4, sV 2 4], 39, true, 1⟩), (1, (pB (Sp.sqr x1 y1 r1))), (2, (pB (Sp.sqr x2 y2 r2)))] [(0, ⟨[sV 1 4, sV 2 4], 39, true, 1⟩), (1, (pB (Sp.sqr x1 y1 r1))), (2, (pB (Sp.sqr x2 y2 r2))), (3, ⟨[.int .i64 0, .int .i64 0], 3, true, 1⟩)] (sV 3 2) (adepth_s2 (Sp.sqr x1 y1 r1) (Sp.sqr x2 y2 r2) ⟨by simp [Sp.sqr, Sp.hol], by simp [Sp.sqr, Sp.hol]⟩ (Sp.few_sqr (m := 1000) (by omega) (by omega) (by omega)).1 ⟨by simp [Sp.sqr, Sp.hol], by simp [Sp.sqr, Sp.hol]⟩ (Sp.few_sqr (m := 1000) (by omega) (by omega) (by omega)).1 c1 c2 F21) (.cons rS .nil) ⟨rfl, ⟨rfl, rfl, rfl, (.cons rS (.cons rS .nil))⟩, rfl, bP, rfl, bP, trivial⟩ ⟨rfl, ⟨rfl, rfl, rfl, (.cons rS (.cons rS .nil))⟩, rfl, bP, rfl, bP, rfl, ⟨rfl, rfl, rfl, (.flats (by kernel_rfl))⟩, trivial⟩ rS) <|
    .a 2 4 <| .nil _ _) ?_
  refine aw_bl 0 59 ?_
  refine aw_lp 119 ?_
  refine al_round ?_
  refine aw_p 239 (
    .a 1 4 <| .nil _ _) ?_
  refine aw_sq 478 479 ?_
  refine aw_tr 956 ?_
  refine aw_sk ?_
  refine then_normal ?_
  refine aw_sq 958 959 ?_
  refine aw_bl 1 1917 ?_
  refine aw_p 3835 (
    .a 5 4 <| .nil _ _) ?_
  refine aw_p 7671 (
    .a 4 4 <|
    .p (cF #[.tmp 18] #[39] [sV 1 4] 1 [1, 4] [(1, (pB (Sp.sqr x1 y1 r1)))] [(1, (pB (Sp.sqr x1 y1 r1))), (4, (pB (Sp.sqr x1 y1 r1)))] (sV 4 4) (norm_n (Sp.sqr x1 y1 r1) (Sp.sqr x1 y1 r1) 0 4 (by simp [Sp.sqr, Sp.hol]) (by decide) (by decide) (by decide) (Sp.chk_diff c1).2 (Sp.sq_least s1).1 (Sp.sq_norm s1 u1 v1 w1).1) (.cons rS .nil) ⟨rfl, bP, trivial⟩ ⟨rfl, bP, rfl, bP, trivial⟩ rS) <|
    .a 1 5 <| .nil _ _) ?_
  refine aw_sq 15342 15343 ?_
  refine aw_p 30685 (
    .a 3 5 <| .nil _ _) ?_
  refine aw_fl 61371 ?_
  refine aw_sk ?_
  refine then_normal ?_
  refine aw_p1 (
    .a 3 5 <| .p (does_ap 6) <| .a 1 7 <| .nil _ _) ?_
  refine block_normal ?_
  refine then_normal ?_
  refine aw_p1 (
    .a 2 7 <| .nil _ _) ?_
  refine then_normal ?_
  refine al_round ?_
  refine aw_p 239 (
    .a 1 7 <| .nil _ _) ?_
  refine aw_sq 478 479 ?_
  refine aw_tr 956 ?_
  refine aw_sk ?_
  refine then_normal ?_
  refine aw_sq 958 959 ?_
  refine aw_bl 1 1917 ?_
  refine aw_p 3835 (
    .a 5 7 <| .nil _ _) ?_
  refine aw_p 7671 (
    .a 4 7 <|
    .p (cF #[.tmp 18] #[39] [sV 2 4] 1 [2, 7] [(2, (pB (Sp.sqr x2 y2 r2)))] [(2, (pB (Sp.sqr x2 y2 r2))), (7, (pB (Sp.sqr x2 y2 r2)))] (sV 7 4) (norm_n (Sp.sqr x2 y2 r2) (Sp.sqr x2 y2 r2) 0 4 (by simp [Sp.sqr, Sp.hol]) (by decide) (by decide) (by decide) (Sp.chk_diff c2).2 (Sp.sq_least s2).1 (Sp.sq_norm s2 u2 v2 w2).1) (.cons rS .nil) ⟨rfl, bP, trivial⟩ ⟨rfl, bP, rfl, bP, trivial⟩ rS) <|
    .a 1 8 <| .nil _ _) ?_
  refine aw_sq 15342 15343 ?_
  refine aw_p 30685 (
    .a 3 8 <| .nil _ _) ?_
  refine aw_fl 61371 ?_
  refine aw_sk ?_
  refine then_normal ?_
  refine aw_p1 (
    .a 3 8 <| .p (does_ap 9) <| .a 1 10 <| .nil _ _) ?_
  refine block_normal ?_
  refine then_normal ?_
  refine aw_p1 (
    .a 2 10 <| .nil _ _) ?_
  refine then_normal ?_
  refine al_round ?_
  refine aw_p 239 (
    .a 1 10 <| .nil _ _) ?_
  refine aw_sq 478 479 ?_
  refine aw_fl 957 ?_
  refine aw_ex 0 ?_
  refine then_exit ?_
  refine then_exit ?_
  refine block_exit ?_
  refine then_normal ?_
  refine aw_p 31 (
    .a 1 10 <|
    .p (cS #[.tmp 31, .func 31] #[25, 69] [sV 9 2, .func (.func 31) #[] #[]] [9, 4, 7] [(9, ⟨[sV 4 4, sV 7 4], 39, true, 1⟩), (4, (pB (Sp.sqr x1 y1 r1))), (7, (pB (Sp.sqr x2 y2 r2)))] (.tuple #[]) (srt_2 (Sp.sqr x1 y1 r1) (Sp.sqr x2 y2 r2) ⟨by simp [Sp.sqr, Sp.hol], by simp [Sp.sqr, Sp.hol]⟩ ⟨by simp [Sp.sqr, Sp.hol], by simp [Sp.sqr, Sp.hol]⟩ o2) (.cons rS (.cons rF .nil)) ⟨rfl, ⟨rfl, rfl, rfl, (.cons rS (.cons rS .nil))⟩, rfl, bP, rfl, bP, trivial⟩ rF) <| .nil _ _) ?_
  refine aw_p 63 (
    .a 2 10 <| .nil _ _) ?_
  refine aw_r [(3, 9), (5, 7)] [(2, sV 9 2)] [(0, ⟨[sV 1 4, sV 2 4], 39, true, 1⟩), (1, (pB (Sp.sqr x1 y1 r1))), (2, (pB (Sp.sqr x2 y2 r2))), (9, ⟨[sV 4 4, sV 7 4], 39, true, 1⟩), (4, (pB (Sp.sqr x1 y1 r1))), (7, (pB (Sp.sqr x2 y2 r2)))] [(2, sV 3 2)] [(0, ⟨[sV 1 4, sV 2 4], 39, true, 1⟩), (1, (pB (Sp.sqr x1 y1 r1))), (2, (pB (Sp.sqr x2 y2 r2))), (3, ⟨[sV 4 4, sV 5 4], 39, true, 1⟩), (4, (pB (Sp.sqr x1 y1 r1))), (5, (pB (Sp.sqr x2 y2 r2)))] ?_ ⟨rfl, (rK rfl), trivial⟩ ⟨rfl, ⟨rfl, rfl, rfl, (.cons (rK rfl) (.cons (rK rfl) .nil))⟩, rfl, ⟨rfl, rfl, rfl, (.flats (flats_pair _))⟩, rfl, ⟨rfl, rfl, rfl, (.flats (flats_pair _))⟩, rfl, ⟨rfl, rfl, rfl, (.cons (rK rfl) (.cons (rK rfl) .nil))⟩, rfl, ⟨rfl, rfl, rfl, (.flats (flats_pair _))⟩, rfl, ⟨rfl, rfl, rfl, (.flats (flats_pair _))⟩, trivial⟩
  refine aw_rt ?_
  exact en_ret [sV 3 2] (by kernel_rfl)
end Go.Proofs.YtndkhgfecnbmnaaGreat.Am

namespace Go.Proofs.YtndkhgfecnbmnaaGreat.Am
open Go Go.Proofs
set_option maxRecDepth 100000
set_option maxHeartbeats 4000000
set_option linter.unusedVariables false
set_option linter.unusedSimpArgs false
theorem areasSameV_0 (xs : List Int) (u v r : Int) (u0 : -15 ≤ u) (u1 : u ≤ 14) (v0 : -15 ≤ v) (v1 : v ≤ 14) (r0 : 6 ≤ r) (r1 : r ≤ 15)  (hm : AC Tryz.prog 5 1 [.slice (some ⟨0, 0, none⟩) xs.length 0] [(0, ⟨(xs.map i64v), 3, false, 1⟩)] (.slice (some ⟨1, 0, none⟩) 1 0) [(1, ⟨[sV 2 4], 39, true, 1⟩), (2, (pB (Sp.sqr u v r)))]) (x px py : Int) (hx : AC Tryz.prog 6 0 [.int .i64 x] [] (.agg #[.int .i64 px, .int .i64 py]) []) (bpx : -40 ≤ px) (cpx : px ≤ 40) (bpy : -40 ≤ py) (cpy : py ≤ 40) : AC Tryz.prog 3 1 [.slice (some ⟨0, 0, none⟩) xs.length 0, .int .i64 x] [(0, ⟨(xs.map i64v), 3, false, 1⟩)] (.bool true) [] := by
  have hq := Sp.out_q (lx := u - r) (ly := v - r) (hx := u + r) (hy := v + r) (px := px) (py := py) (by omega) (by omega) (by omega) ⟨bpx, cpx⟩ ⟨bpy, cpy⟩ [Sp.sqr u v r] (by intro R hR; simp only [List.mem_cons, List.not_mem_nil, or_false] at hR; rcases hR with rfl <;> first | exact (Sp.in_sq (by omega) (by omega) (by omega)).1)
  exact areasSame_0 xs (Sp.sqr u v r) (Sp.rct (u - r - 2) (v - r - 2) (u + r + 2) (v + r + 2)) ⟨by simp [Sp.sqr, Sp.hol], by simp [Sp.sqr, Sp.hol]⟩ (Sp.few_sqr (m := 1000) (by omega) (by omega) (by omega)).1 ⟨by simp [Sp.rct], by simp [Sp.rct]⟩ (Sp.few_rct (m := 1000) (by omega) (by omega) (by omega) (by omega)) (Sp.sq_good (by omega) (by omega) (by omega) (by omega)).1 (Sp.ard (by omega) (by omega) (by omega) (by omega)).1 (Sp.ard (by omega) (by omega) (by omega) (by omega)).2 hm (anorm_n1 u v r (by omega) (by omega) (by omega) (by omega) (Sp.sq_good (by omega) (by omega) (by omega) (by omega)).1  ) x px py hx bpx cpx bpy cpy (u - r) (v - r) (u + r) (v + r) (by omega) (by omega) (by omega) (by omega) (Sp.box_n1 (by omega)) rfl (8 * (r * r)) (2 * ((u + r + 2 - (u - r - 2)) * (v + r + 2 - (v - r - 2)))) (Sp.sq_area (by omega) (by omega) (by omega) (by omega)).1 (Sp.sq_bd (r := r) (by omega) (by omega)).1 (Sp.rct_area (by omega) (by omega) (by omega) (by omega)) (Sp.rct_bd (a := u - r - 2) (b := v - r - 2) (c := u + r + 2) (d := v + r + 2) (by omega) (by omega)).1 (Sp.rct_bd (a := u - r - 2) (b := v - r - 2) (c := u + r + 2) (d := v + r + 2) (by omega) (by omega)).2 hq
theorem areasSameV_1 (xs : List Int) (u v r k : Int) (u0 : -15 ≤ u) (u1 : u ≤ 14) (v0 : -15 ≤ v) (v1 : v ≤ 14) (r0 : 6 ≤ r) (r1 : r ≤ 15) (k0 : 1 ≤ k) (k1 : k ≤ r - 2) (hm : AC Tryz.prog 5 1 [.slice (some ⟨0, 0, none⟩) xs.length 0] [(0, ⟨(xs.map i64v), 3, false, 1⟩)] (.slice (some ⟨1, 0, none⟩) 2 0) [(1, ⟨[sV 2 4, sV 3 4], 39, true, 1⟩), (2, (pB (Sp.sqr u v r))), (3, (pB (Sp.hol u v k)))]) (x px py : Int) (hx : AC Tryz.prog 6 0 [.int .i64 x] [] (.agg #[.int .i64 px, .int .i64 py]) []) (bpx : -40 ≤ px) (cpx : px ≤ 40) (bpy : -40 ≤ py) (cpy : py ≤ 40) : AC Tryz.prog 3 1 [.slice (some ⟨0, 0, none⟩) xs.length 0, .int .i64 x] [(0, ⟨(xs.map i64v), 3, false, 1⟩)] (.bool true) [] := by
  have hq := Sp.out_q (lx := u - r) (ly := v - r) (hx := u + r) (hy := v + r) (px := px) (py := py) (by omega) (by omega) (by omega) ⟨bpx, cpx⟩ ⟨bpy, cpy⟩ [Sp.sqr u v r, Sp.hol u v k] (by intro R hR; simp only [List.mem_cons, List.not_mem_nil, or_false] at hR; rcases hR with rfl | rfl <;> first | exact (Sp.in_sq (by omega) (by omega) (by omega)).1 | exact (Sp.in_sq (by omega) (by omega) (by omega)).2)
  exact areasSame_1 xs (Sp.sqr u v r) (Sp.hol u v k) (Sp.rct (u - r - 2) (v - r - 2) (u + r + 2) (v + r + 2)) ⟨by simp [Sp.sqr, Sp.hol], by simp [Sp.sqr, Sp.hol]⟩ (Sp.few_sqr (m := 1000) (by omega) (by omega) (by omega)).1 ⟨by simp [Sp.sqr, Sp.hol], by simp [Sp.sqr, Sp.hol]⟩ (Sp.few_sqr (m := 1000) (by omega) (by omega) (by omega)).2 ⟨by simp [Sp.rct], by simp [Sp.rct]⟩ (Sp.few_rct (m := 1000) (by omega) (by omega) (by omega) (by omega)) (Sp.sq_good (by omega) (by omega) (by omega) (by omega)).1 (Sp.sq_good (by omega) (by omega) (by omega) (by omega)).2 (Sp.ard (by omega) (by omega) (by omega) (by omega)).1 (Sp.fit_hs (by omega) (by omega) (by omega) (by omega) (by omega) (by omega)) (Sp.ard (by omega) (by omega) (by omega) (by omega)).2 (Sp.ard_h (by omega) (by omega) (by omega) (by omega) (by omega) (by omega)) hm (anorm_n2 u v r u v k (by omega) (by omega) (by omega) (by omega) (by omega) (by omega) (by omega) (by omega) (Sp.sq_good (by omega) (by omega) (by omega) (by omega)).1 (Sp.sq_good (by omega) (by omega) (by omega) (by omega)).2 (Sp.fit_hs (by omega) (by omega) (by omega) (by omega) (by omega) (by omega)) (Sp.pc_1 (by simp only [Sp.sqr, Sp.hol, List.getD_cons_zero]; omega))) x px py hx bpx cpx bpy cpy (u - r) (v - r) (u + r) (v + r) (by omega) (by omega) (by omega) (by omega) (Sp.box_n2 (by omega) (by omega) (by omega)) rfl (8 * (r * r)) (-(8 * (k * k))) (2 * ((u + r + 2 - (u - r - 2)) * (v + r + 2 - (v - r - 2)))) (Sp.sq_area (by omega) (by omega) (by omega) (by omega)).1 (Sp.sq_bd (r := r) (by omega) (by omega)).1 (Sp.sq_area (by omega) (by omega) (by omega) (by omega)).2 (Sp.sq_bd (r := k) (by omega) (by omega)).2 (Sp.rct_area (by omega) (by omega) (by omega) (by omega)) (Sp.rct_bd (a := u - r - 2) (b := v - r - 2) (c := u + r + 2) (d := v + r + 2) (by omega) (by omega)).1 (Sp.rct_bd (a := u - r - 2) (b := v - r - 2) (c := u + r + 2) (d := v + r + 2) (by omega) (by omega)).2 hq
theorem areasSameV_2 (xs : List Int) (u v r k j : Int) (u0 : -15 ≤ u) (u1 : u ≤ 14) (v0 : -15 ≤ v) (v1 : v ≤ 14) (r0 : 6 ≤ r) (r1 : r ≤ 15) (k0 : 3 ≤ k) (k1 : k ≤ r - 2) (j0 : 1 ≤ j) (j1 : j ≤ k - 2) (hm : AC Tryz.prog 5 1 [.slice (some ⟨0, 0, none⟩) xs.length 0] [(0, ⟨(xs.map i64v), 3, false, 1⟩)] (.slice (some ⟨1, 0, none⟩) 3 0) [(1, ⟨[sV 2 4, sV 3 4, sV 4 4], 39, true, 1⟩), (2, (pB (Sp.sqr u v r))), (3, (pB (Sp.hol u v k))), (4, (pB (Sp.sqr u v j)))]) (x px py : Int) (hx : AC Tryz.prog 6 0 [.int .i64 x] [] (.agg #[.int .i64 px, .int .i64 py]) []) (bpx : -40 ≤ px) (cpx : px ≤ 40) (bpy : -40 ≤ py) (cpy : py ≤ 40) : AC Tryz.prog 3 1 [.slice (some ⟨0, 0, none⟩) xs.length 0, .int .i64 x] [(0, ⟨(xs.map i64v), 3, false, 1⟩)] (.bool true) [] := by
  have hq := Sp.out_q (lx := u - r) (ly := v - r) (hx := u + r) (hy := v + r) (px := px) (py := py) (by omega) (by omega) (by omega) ⟨bpx, cpx⟩ ⟨bpy, cpy⟩ [Sp.sqr u v r, Sp.hol u v k, Sp.sqr u v j] (by intro R hR; simp only [List.mem_cons, List.not_mem_nil, or_false] at hR; rcases hR with rfl | rfl | rfl <;> first | exact (Sp.in_sq (by omega) (by omega) (by omega)).1 | exact (Sp.in_sq (by omega) (by omega) (by omega)).2 | exact (Sp.in_sq (by omega) (by omega) (by omega)).1)
  exact areasSame_2 xs (Sp.sqr u v r) (Sp.hol u v k) (Sp.sqr u v j) (Sp.rct (u - r - 2) (v - r - 2) (u + r + 2) (v + r + 2)) ⟨by simp [Sp.sqr, Sp.hol], by simp [Sp.sqr, Sp.hol]⟩ (Sp.few_sqr (m := 1000) (by omega) (by omega) (by omega)).1 ⟨by simp [Sp.sqr, Sp.hol], by simp [Sp.sqr, Sp.hol]⟩ (Sp.few_sqr (m := 1000) (by omega) (by omega) (by omega)).2 ⟨by simp [Sp.sqr, Sp.hol], by simp [Sp.sqr, Sp.hol]⟩ (Sp.few_sqr (m := 1000) (by omega) (by omega) (by omega)).1 ⟨by simp [Sp.rct], by simp [Sp.rct]⟩ (Sp.few_rct (m := 1000) (by omega) (by omega) (by omega) (by omega)) (Sp.sq_good (by omega) (by omega) (by omega) (by omega)).1 (Sp.sq_good (by omega) (by omega) (by omega) (by omega)).2 (Sp.sq_good (by omega) (by omega) (by omega) (by omega)).1 (Sp.ard (by omega) (by omega) (by omega) (by omega)).1 (Sp.fit_hs (by omega) (by omega) (by omega) (by omega) (by omega) (by omega)) (Sp.fit_ss (by omega) (by omega) (by omega) (by omega) (by omega) (by omega)) (Sp.fit_sh (by omega) (by omega) (by omega) (by omega) (by omega) (by omega)) (Sp.ard (by omega) (by omega) (by omega) (by omega)).2 (Sp.ard_h (by omega) (by omega) (by omega) (by omega) (by omega) (by omega)) (Sp.ard_s (by omega) (by omega) (by omega) (by omega) (by omega) (by omega)) hm (anorm_n3 u v r u v k u v j (by omega) (by omega) (by omega) (by omega) (by omega) (by omega) (by omega) (by omega) (by omega) (by omega) (by omega) (by omega) (Sp.sq_good (by omega) (by omega) (by omega) (by omega)).1 (Sp.sq_good (by omega) (by omega) (by omega) (by omega)).2 (Sp.sq_good (by omega) (by omega) (by omega) (by omega)).1 (Sp.fit_hs (by omega) (by omega) (by omega) (by omega) (by omega) (by omega)) (Sp.fit_ss (by omega) (by omega) (by omega) (by omega) (by omega) (by omega)) (Sp.fit_sh (by omega) (by omega) (by omega) (by omega) (by omega) (by omega)) (Sp.pc_1 (by simp only [Sp.sqr, Sp.hol, List.getD_cons_zero]; omega)) (Sp.pc_1 (by simp only [Sp.sqr, Sp.hol, List.getD_cons_zero]; omega))) x px py hx bpx cpx bpy cpy (u - r) (v - r) (u + r) (v + r) (by omega) (by omega) (by omega) (by omega) (Sp.box_n3 (by omega) (by omega) (by omega) (by omega) (by omega)) rfl (8 * (r * r)) (-(8 * (k * k))) (8 * (j * j)) (2 * ((u + r + 2 - (u - r - 2)) * (v + r + 2 - (v - r - 2)))) (Sp.sq_area (by omega) (by omega) (by omega) (by omega)).1 (Sp.sq_bd (r := r) (by omega) (by omega)).1 (Sp.sq_area (by omega) (by omega) (by omega) (by omega)).2 (Sp.sq_bd (r := k) (by omega) (by omega)).2 (Sp.sq_area (by omega) (by omega) (by omega) (by omega)).1 (Sp.sq_bd (r := j) (by omega) (by omega)).1 (Sp.rct_area (by omega) (by omega) (by omega) (by omega)) (Sp.rct_bd (a := u - r - 2) (b := v - r - 2) (c := u + r + 2) (d := v + r + 2) (by omega) (by omega)).1 (Sp.rct_bd (a := u - r - 2) (b := v - r - 2) (c := u + r + 2) (d := v + r + 2) (by omega) (by omega)).2 hq
theorem areasSameV_3 (xs : List Int) (u v r d : Int) (u0 : -15 ≤ u) (u1 : u ≤ 14) (v0 : -15 ≤ v) (v1 : v ≤ 14) (r0 : 6 ≤ r) (r1 : r ≤ 15) (d0 : 0 ≤ d) (d1 : d ≤ 2) (hm : AC Tryz.prog 5 1 [.slice (some ⟨0, 0, none⟩) xs.length 0] [(0, ⟨(xs.map i64v), 3, false, 1⟩)] (.slice (some ⟨1, 0, none⟩) 2 0) [(1, ⟨[sV 2 4, sV 3 4], 39, true, 1⟩), (2, (pB (Sp.sqr u v r))), (3, (pB (Sp.sqr (u + r + 3 + d) v (2))))]) (x px py : Int) (hx : AC Tryz.prog 6 0 [.int .i64 x] [] (.agg #[.int .i64 px, .int .i64 py]) []) (bpx : -40 ≤ px) (cpx : px ≤ 40) (bpy : -40 ≤ py) (cpy : py ≤ 40) : AC Tryz.prog 3 1 [.slice (some ⟨0, 0, none⟩) xs.length 0, .int .i64 x] [(0, ⟨(xs.map i64v), 3, false, 1⟩)] (.bool true) [] := by
  have hq := Sp.out_q (lx := u - r) (ly := v - r) (hx := u + r + 3 + d + 2) (hy := v + r) (px := px) (py := py) (by omega) (by omega) (by omega) ⟨bpx, cpx⟩ ⟨bpy, cpy⟩ [Sp.sqr u v r, Sp.sqr (u + r + 3 + d) v (2)] (by intro R hR; simp only [List.mem_cons, List.not_mem_nil, or_false] at hR; rcases hR with rfl | rfl <;> first | exact (Sp.in_sq (by omega) (by omega) (by omega)).1 | exact (Sp.in_sq (by omega) (by omega) (by omega)).1)
  exact areasSame_3 xs (Sp.sqr u v r) (Sp.sqr (u + r + 3 + d) v (2)) (Sp.rct (u - r - 2) (v - r - 2) (u + r + 3 + d + 2 + 2) (v + r + 2)) ⟨by simp [Sp.sqr, Sp.hol], by simp [Sp.sqr, Sp.hol]⟩ (Sp.few_sqr (m := 1000) (by omega) (by omega) (by omega)).1 ⟨by simp [Sp.sqr, Sp.hol], by simp [Sp.sqr, Sp.hol]⟩ (Sp.few_sqr (m := 1000) (by omega) (by omega) (by omega)).1 ⟨by simp [Sp.rct], by simp [Sp.rct]⟩ (Sp.few_rct (m := 1000) (by omega) (by omega) (by omega) (by omega)) (Sp.sq_good (by omega) (by omega) (by omega) (by omega)).1 (Sp.sq_good (by omega) (by omega) (by omega) (by omega)).1 (Sp.ar_fb (by omega) (by omega) (by omega) (by omega) (by omega) (by omega)).2 (Sp.fit_by (by omega) (by omega) (by omega) (by omega) (by omega) (by omega)) (Sp.ar_fb (by omega) (by omega) (by omega) (by omega) (by omega) (by omega)).1.1 (Sp.ar_fb (by omega) (by omega) (by omega) (by omega) (by omega) (by omega)).1.2 hm (anorm_s2 u v r (u + r + 3 + d) v (2) (by omega) (by omega) (by omega) (by omega) (by omega) (by omega) (by omega) (by omega) (Sp.sq_good (by omega) (by omega) (by omega) (by omega)).1 (Sp.sq_good (by omega) (by omega) (by omega) (by omega)).1 (Sp.fit_by (by omega) (by omega) (by omega) (by omega) (by omega) (by omega)) (Sp.pc_1 (by simp only [Sp.sqr, Sp.hol, List.getD_cons_zero]; omega))) x px py hx bpx cpx bpy cpy (u - r) (v - r) (u + r + 3 + d + 2) (v + r) (by omega) (by omega) (by omega) (by omega) (Sp.box_s2 (by omega) (by omega)) rfl (8 * (r * r)) (8 * ((2) * (2))) (2 * ((u + r + 3 + d + 2 + 2 - (u - r - 2)) * (v + r + 2 - (v - r - 2)))) (Sp.sq_area (by omega) (by omega) (by omega) (by omega)).1 (Sp.sq_bd (r := r) (by omega) (by omega)).1 (Sp.sq_area (by omega) (by omega) (by omega) (by omega)).1 (Sp.sq_bd (r := 2) (by omega) (by omega)).1 (Sp.rct_area (by omega) (by omega) (by omega) (by omega)) (Sp.rct_bd (a := u - r - 2) (b := v - r - 2) (c := u + r + 3 + d + 2 + 2) (d := v + r + 2) (by omega) (by omega)).1 (Sp.rct_bd (a := u - r - 2) (b := v - r - 2) (c := u + r + 3 + d + 2 + 2) (d := v + r + 2) (by omega) (by omega)).2 hq
theorem areasSame_walk (xs : List Int) (x px py : Int) (hx : AC Tryz.prog 6 0 [.int .i64 x] [] (.agg #[.int .i64 px, .int .i64 py]) []) (bpx : -40 ≤ px) (cpx : px ≤ 40) (bpy : -40 ≤ py) (cpy : py ≤ 40) : AC Tryz.prog 3 1 [.slice (some ⟨0, 0, none⟩) xs.length 0, .int .i64 x] [(0, ⟨(xs.map i64v), 3, false, 1⟩)] (.bool true) [] := by
  have g0 := Sp.emod_bd (xs.getD 0 0) (n := 30) (by decide)
  have g1 := Sp.emod_bd (xs.getD 1 0) (n := 30) (by decide)
  have g2 := Sp.emod_bd (xs.getD 2 0) (n := 10) (by decide)
  have g3 := Sp.emod_bd (xs.getD 3 0) (n := 4) (by decide)
  rcases (show xs.getD 3 0 % 4 = 0 ∨ xs.getD 3 0 % 4 = 1 ∨ xs.getD 3 0 % 4 = 2 ∨ xs.getD 3 0 % 4 = 3 by omega) with h | h | h | h
  · exact areasSameV_0 xs (xs.getD 0 0 % 30 - 15) (xs.getD 1 0 % 30 - 15) (6 + xs.getD 2 0 % 10) (by omega) (by omega) (by omega) (by omega) (by omega) (by omega) (marea_0 xs h) x px py hx bpx cpx bpy cpy
  · have e4 := Sp.emod_bd (xs.getD 4 0) (n := (6 + xs.getD 2 0 % 10) - 2) (by omega); exact areasSameV_1 xs (xs.getD 0 0 % 30 - 15) (xs.getD 1 0 % 30 - 15) (6 + xs.getD 2 0 % 10) (1 + xs.getD 4 0 % ((6 + xs.getD 2 0 % 10) - 2)) (by omega) (by omega) (by omega) (by omega) (by omega) (by omega) (by omega) (by omega) (marea_1 xs h) x px py hx bpx cpx bpy cpy
  · have e4 := Sp.emod_bd (xs.getD 4 0) (n := (6 + xs.getD 2 0 % 10) - 4) (by omega); have e5 := Sp.emod_bd (xs.getD 5 0) (n := 3 + xs.getD 4 0 % ((6 + xs.getD 2 0 % 10) - 4) - 2) (by omega); exact areasSameV_2 xs (xs.getD 0 0 % 30 - 15) (xs.getD 1 0 % 30 - 15) (6 + xs.getD 2 0 % 10) (3 + xs.getD 4 0 % ((6 + xs.getD 2 0 % 10) - 4)) (1 + xs.getD 5 0 % ((3 + xs.getD 4 0 % ((6 + xs.getD 2 0 % 10) - 4)) - 2)) (by omega) (by omega) (by omega) (by omega) (by omega) (by omega) (by omega) (by omega) (by omega) (by omega) (marea_2 xs h) x px py hx bpx cpx bpy cpy
  · have e4 := Sp.emod_bd (xs.getD 4 0) (n := 3) (by decide); exact areasSameV_3 xs (xs.getD 0 0 % 30 - 15) (xs.getD 1 0 % 30 - 15) (6 + xs.getD 2 0 % 10) (xs.getD 4 0 % 3) (by omega) (by omega) (by omega) (by omega) (by omega) (by omega) (by omega) (by omega) (marea_3 xs h) x px py hx bpx cpx bpy cpy
end Go.Proofs.YtndkhgfecnbmnaaGreat.Am
