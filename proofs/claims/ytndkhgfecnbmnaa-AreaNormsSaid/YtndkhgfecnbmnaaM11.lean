import Derived.Test.YtndkhgfecnbmnaaProg
import Derived.Test.YtndkhgfecnbmnaaM2
import Derived.Test.YtndkhgfecnbmnaaM5
import Derived.Test.YtndkhgfecnbmnaaM10
import Derived.Test.YtndkhgfecnbmnaaM3
import Derived.Test.YtndkhgfecnbmnaaM7
import Derived.Test.YtndkhgfecnbmnaaM8
import Derived.Test.YtndkhgfecnbmnaaM4
import Derived.Test.YtndkhgfecnbmnaaM9
namespace Go.Proofs.Ytndkhgfecnbmnaa.Am
open Go Go.Proofs
set_option maxRecDepth 100000
set_option maxHeartbeats 4000000
set_option linter.unusedVariables false
set_option linter.unusedSimpArgs false
theorem anorm_n3 (x1 y1 r1 x2 y2 r2 x3 y3 r3 : Int) (s1 : 1 ≤ r1) (u1 : r1 ≤ 20) (v1 : -40 ≤ x1 - r1 ∧ x1 + r1 ≤ 40) (w1 : -40 ≤ y1 - r1 ∧ y1 + r1 ≤ 40) (s2 : 1 ≤ r2) (u2 : r2 ≤ 20) (v2 : -40 ≤ x2 - r2 ∧ x2 + r2 ≤ 40) (w2 : -40 ≤ y2 - r2 ∧ y2 + r2 ≤ 40) (s3 : 1 ≤ r3) (u3 : r3 ≤ 20) (v3 : -40 ≤ x3 - r3 ∧ x3 + r3 ≤ 40) (w3 : -40 ≤ y3 - r3 ∧ y3 + r3 ≤ 40) (c1 : Sp.chkF (Sp.sqr x1 y1 r1) = 0) (c2 : Sp.chkF (Sp.hol x2 y2 r2) = 0) (c3 : Sp.chkF (Sp.sqr x3 y3 r3) = 0) (F21 : Sp.Fit (Sp.hol x2 y2 r2) (Sp.sqr x1 y1 r1) 1 (-1)) (F31 : Sp.Fit (Sp.sqr x3 y3 r3) (Sp.sqr x1 y1 r1) 1 (-1)) (F32 : Sp.Fit (Sp.sqr x3 y3 r3) (Sp.hol x2 y2 r2) 1 (-1)) (o2 : Sp.pcmp ((Sp.hol x2 y2 r2).getD 0 (0, 0)).1 ((Sp.hol x2 y2 r2).getD 0 (0, 0)).2 ((Sp.sqr x1 y1 r1).getD 0 (0, 0)).1 ((Sp.sqr x1 y1 r1).getD 0 (0, 0)).2 = 1) (o3 : Sp.pcmp ((Sp.sqr x3 y3 r3).getD 0 (0, 0)).1 ((Sp.sqr x3 y3 r3).getD 0 (0, 0)).2 ((Sp.hol x2 y2 r2).getD 0 (0, 0)).1 ((Sp.hol x2 y2 r2).getD 0 (0, 0)).2 = 1) :
    AC Try.prog 22 4 ([sV 0 3]) [(0, ⟨[sV 1 4, sV 2 4, sV 3 4], 30, true, 1⟩), (1, (pB (Sp.sqr x1 y1 r1))), (2, (pB (Sp.hol x2 y2 r2))), (3, (pB (Sp.sqr x3 y3 r3)))] (sV 4 3) [(0, ⟨[sV 1 4, sV 2 4, sV 3 4], 30, true, 1⟩), (1, (pB (Sp.sqr x1 y1 r1))), (2, (pB (Sp.hol x2 y2 r2))), (3, (pB (Sp.sqr x3 y3 r3))), (4, ⟨[sV 5 4, sV 6 4, sV 7 4], 30, true, 1⟩), (5, (pB (Sp.sqr x1 y1 r1))), (6, (pB (Sp.hol x2 y2 r2))), (7, (pB (Sp.sqr x3 y3 r3)))] := by
  refine ac_in Try.func22 (fun w0 W pin => ?_)
  refine aw_p 3 (
    .a 1 4 <| .nil _ _) ?_
  refine aw_p 7 (
    .a 1 4 <| .nil _ _) ?_
  refine aw_sq 14 15 ?_
  refine aw_p 29 (
    .a 1 4 <|
    .p (cF #[.tmp 7] #[25] [sV 0 3] 1 [0, 1, 2, 3, 4] [(0, ⟨[sV 1 4, sV 2 4, sV 3 4], 30, true, 1⟩), (1, (pB (Sp.sqr x1 y1 r1))), (2, (pB (Sp.hol x2 y2 r2))), (3, (pB (Sp.sqr x3 y3 r3)))] [(0, ⟨[sV 1 4, sV 2 4, sV 3 4], 30, true, 1⟩), (1, (pB (Sp.sqr x1 y1 r1))), (2, (pB (Sp.hol x2 y2 r2))), (3, (pB (Sp.sqr x3 y3 r3))), (4, ⟨[.int .i64 0, .int .i64 1, .int .i64 2], 3, true, 1⟩)] (sV 4 3) (adepth_n3 (Sp.sqr x1 y1 r1) (Sp.hol x2 y2 r2) (Sp.sqr x3 y3 r3) ⟨by simp [Sp.sqr, Sp.hol], by simp [Sp.sqr, Sp.hol]⟩ (Sp.few_sqr (m := 1000) (by omega) (by omega) (by omega)).1 ⟨by simp [Sp.sqr, Sp.hol], by simp [Sp.sqr, Sp.hol]⟩ (Sp.few_sqr (m := 1000) (by omega) (by omega) (by omega)).2 ⟨by simp [Sp.sqr, Sp.hol], by simp [Sp.sqr, Sp.hol]⟩ (Sp.few_sqr (m := 1000) (by omega) (by omega) (by omega)).1 c1 c2 c3 F21 F31 F32) (.cons rS .nil) ⟨rfl, ⟨rfl, rfl, rfl, (.cons rS (.cons rS (.cons rS .nil)))⟩, rfl, bP, rfl, bP, rfl, bP, trivial⟩ ⟨rfl, ⟨rfl, rfl, rfl, (.cons rS (.cons rS (.cons rS .nil)))⟩, rfl, bP, rfl, bP, rfl, bP, rfl, ⟨rfl, rfl, rfl, (.flats (by kernel_rfl))⟩, trivial⟩ rS) <|
    .a 2 5 <| .nil _ _) ?_
  refine aw_bl 0 59 ?_
  refine aw_lp 119 ?_
  refine al_round ?_
  refine aw_p 239 (
    .a 1 5 <| .nil _ _) ?_
  refine aw_sq 478 479 ?_
  refine aw_tr 956 ?_
  refine aw_sk ?_
  refine then_normal ?_
  refine aw_sq 958 959 ?_
  refine aw_bl 1 1917 ?_
  refine aw_p 3835 (
    .a 5 5 <| .nil _ _) ?_
  refine aw_p 7671 (
    .a 4 5 <|
    .p (cF #[.tmp 18] #[30] [sV 1 4] 1 [1, 5] [(1, (pB (Sp.sqr x1 y1 r1)))] [(1, (pB (Sp.sqr x1 y1 r1))), (5, (pB (Sp.sqr x1 y1 r1)))] (sV 5 4) (norm_n (Sp.sqr x1 y1 r1) (Sp.sqr x1 y1 r1) 0 4 (by simp [Sp.sqr, Sp.hol]) (by decide) (by decide) (by decide) (Sp.chk_diff c1).2 (Sp.sq_least s1).1 (Sp.sq_norm s1 u1 v1 w1).1) (.cons rS .nil) ⟨rfl, bP, trivial⟩ ⟨rfl, bP, rfl, bP, trivial⟩ rS) <|
    .a 1 6 <| .nil _ _) ?_
  refine aw_sq 15342 15343 ?_
  refine aw_p 30685 (
    .a 3 6 <| .nil _ _) ?_
  refine aw_fl 61371 ?_
  refine aw_sk ?_
  refine then_normal ?_
  refine aw_p1 (
    .a 3 6 <| .p (does_ap 7) <| .a 1 8 <| .nil _ _) ?_
  refine block_normal ?_
  refine then_normal ?_
  refine aw_p1 (
    .a 2 8 <| .nil _ _) ?_
  refine then_normal ?_
  refine al_round ?_
  refine aw_p 239 (
    .a 1 8 <| .nil _ _) ?_
  refine aw_sq 478 479 ?_
  refine aw_tr 956 ?_
  refine aw_sk ?_
  refine then_normal ?_
  refine aw_sq 958 959 ?_
  refine aw_bl 1 1917 ?_
  refine aw_p 3835 (
    .a 5 8 <| .nil _ _) ?_
  refine aw_p 7671 (
    .a 4 8 <|
    .p (cF #[.tmp 18] #[30] [sV 2 4] 1 [2, 8] [(2, (pB (Sp.hol x2 y2 r2)))] [(2, (pB (Sp.hol x2 y2 r2))), (8, (pB (Sp.sqr x2 y2 r2)))] (sV 8 4) (norm_n (Sp.hol x2 y2 r2) (Sp.sqr x2 y2 r2) 0 4 (by simp [Sp.sqr, Sp.hol]) (by decide) (by decide) (by decide) (Sp.chk_diff c2).2 (Sp.sq_least s2).2 (Sp.sq_norm s2 u2 v2 w2).2) (.cons rS .nil) ⟨rfl, bP, trivial⟩ ⟨rfl, bP, rfl, bP, trivial⟩ rS) <|
    .a 1 9 <| .nil _ _) ?_
  refine aw_sq 15342 15343 ?_
  refine aw_p 30685 (
    .a 3 9 <| .nil _ _) ?_
  refine aw_tr 61370 ?_
  refine aw_p1 (
    .a 1 9 <|
    .p (does_val (v' := .slice (some ⟨8, 2, none⟩) 3 0) (does_slice (t := 30) (x := .tmp 23) (lo := some (.const (.int .i64 1))) (hi := none) (k := 8) (off := 0) (n := 4) (c := 0) (z := 2) (l := 1) (h := ((4 : Nat) : Int)) (m := 3) (b := (pB (Sp.sqr x2 y2 r2))) (by kernel_rfl) (by kernel_rfl) (by kernel_rfl) (by kernel_rfl) (by kernel_rfl) (by kernel_rfl) (by kernel_rfl) (by kernel_rfl) (by decide) (by decide) (by decide) (by decide)) (by kernel_rfl)) <|
    .p (cF (m := 1) (args0 := [.slice (some ⟨0, 2, none⟩) 3 0]) (pre0 := [(0, (pB (Sp.sqr x2 y2 r2)))]) (post0 := [(0, (pB (Sp.hol x2 y2 r2)))]) (v0 := .tuple #[]) #[.tmp 24] #[30] [.slice (some ⟨8, 2, none⟩) 3 0] 0 [8] [(8, (pB (Sp.sqr x2 y2 r2)))] [(8, (pB (Sp.hol x2 y2 r2)))] (.tuple #[]) (revtail_ok x2 y2 r2) (.cons rS .nil) ⟨rfl, bP, trivial⟩ ⟨rfl, bP, trivial⟩ rF) <| .nil _ _) ?_
  refine then_normal ?_
  refine aw_p1 (
    .a 3 9 <| .p (does_ap 10) <| .a 1 11 <| .nil _ _) ?_
  refine block_normal ?_
  refine then_normal ?_
  refine aw_p1 (
    .a 2 11 <| .nil _ _) ?_
  refine then_normal ?_
  refine al_round ?_
  refine aw_p 239 (
    .a 1 11 <| .nil _ _) ?_
  refine aw_sq 478 479 ?_
  refine aw_tr 956 ?_
  refine aw_sk ?_
  refine then_normal ?_
  refine aw_sq 958 959 ?_
  refine aw_bl 1 1917 ?_
  refine aw_p 3835 (
    .a 5 11 <| .nil _ _) ?_
  refine aw_p 7671 (
    .a 4 11 <|
    .p (cF #[.tmp 18] #[30] [sV 3 4] 1 [3, 11] [(3, (pB (Sp.sqr x3 y3 r3)))] [(3, (pB (Sp.sqr x3 y3 r3))), (11, (pB (Sp.sqr x3 y3 r3)))] (sV 11 4) (norm_n (Sp.sqr x3 y3 r3) (Sp.sqr x3 y3 r3) 0 4 (by simp [Sp.sqr, Sp.hol]) (by decide) (by decide) (by decide) (Sp.chk_diff c3).2 (Sp.sq_least s3).1 (Sp.sq_norm s3 u3 v3 w3).1) (.cons rS .nil) ⟨rfl, bP, trivial⟩ ⟨rfl, bP, rfl, bP, trivial⟩ rS) <|
    .a 1 12 <| .nil _ _) ?_
  refine aw_sq 15342 15343 ?_
  refine aw_p 30685 (
    .a 3 12 <| .nil _ _) ?_
  refine aw_fl 61371 ?_
  refine aw_sk ?_
  refine then_normal ?_
  refine aw_p1 (
    .a 3 12 <| .p (does_ap 13) <| .a 1 14 <| .nil _ _) ?_
  refine block_normal ?_
  refine then_normal ?_
  refine aw_p1 (
    .a 2 14 <| .nil _ _) ?_
  refine then_normal ?_
  refine al_round ?_
  refine aw_p 239 (
    .a 1 14 <| .nil _ _) ?_
  refine aw_sq 478 479 ?_
  refine aw_fl 957 ?_
  refine aw_ex 0 ?_
  refine then_exit ?_
  refine then_exit ?_
  refine block_exit ?_
  refine then_normal ?_
  refine aw_p 31 (
    .a 1 14 <|
    .p (cS #[.tmp 31, .func 66] #[25, 83] [sV 13 3, .func (.func 66) #[] #[]] [13, 5, 8, 11] [(13, ⟨[sV 5 4, sV 8 4, sV 11 4], 30, true, 1⟩), (5, (pB (Sp.sqr x1 y1 r1))), (8, (pB (Sp.hol x2 y2 r2))), (11, (pB (Sp.sqr x3 y3 r3)))] (.tuple #[]) (srt_3 (Sp.sqr x1 y1 r1) (Sp.hol x2 y2 r2) (Sp.sqr x3 y3 r3) ⟨by simp [Sp.sqr, Sp.hol], by simp [Sp.sqr, Sp.hol]⟩ ⟨by simp [Sp.sqr, Sp.hol], by simp [Sp.sqr, Sp.hol]⟩ ⟨by simp [Sp.sqr, Sp.hol], by simp [Sp.sqr, Sp.hol]⟩ o2 o3) (.cons rS (.cons rF .nil)) ⟨rfl, ⟨rfl, rfl, rfl, (.cons rS (.cons rS (.cons rS .nil)))⟩, rfl, bP, rfl, bP, rfl, bP, trivial⟩ rF) <| .nil _ _) ?_
  refine aw_p 63 (
    .a 2 14 <| .nil _ _) ?_
  refine aw_r [(4, 13), (6, 8), (7, 11)] [(2, sV 13 3)] [(0, ⟨[sV 1 4, sV 2 4, sV 3 4], 30, true, 1⟩), (1, (pB (Sp.sqr x1 y1 r1))), (2, (pB (Sp.hol x2 y2 r2))), (3, (pB (Sp.sqr x3 y3 r3))), (13, ⟨[sV 5 4, sV 8 4, sV 11 4], 30, true, 1⟩), (5, (pB (Sp.sqr x1 y1 r1))), (8, (pB (Sp.hol x2 y2 r2))), (11, (pB (Sp.sqr x3 y3 r3)))] [(2, sV 4 3)] [(0, ⟨[sV 1 4, sV 2 4, sV 3 4], 30, true, 1⟩), (1, (pB (Sp.sqr x1 y1 r1))), (2, (pB (Sp.hol x2 y2 r2))), (3, (pB (Sp.sqr x3 y3 r3))), (4, ⟨[sV 5 4, sV 6 4, sV 7 4], 30, true, 1⟩), (5, (pB (Sp.sqr x1 y1 r1))), (6, (pB (Sp.hol x2 y2 r2))), (7, (pB (Sp.sqr x3 y3 r3)))] ?_ ⟨rfl, (rK rfl), trivial⟩ ⟨rfl, ⟨rfl, rfl, rfl, (.cons (rK rfl) (.cons (rK rfl) (.cons (rK rfl) .nil)))⟩, rfl, ⟨rfl, rfl, rfl, (.flats (flats_pair _))⟩, rfl, ⟨rfl, rfl, rfl, (.flats (flats_pair _))⟩, rfl, ⟨rfl, rfl, rfl, (.flats (flats_pair _))⟩, rfl, ⟨rfl, rfl, rfl, (.cons (rK rfl) (.cons (rK rfl) (.cons (rK rfl) .nil)))⟩, rfl, ⟨rfl, rfl, rfl, (.flats (flats_pair _))⟩, rfl, ⟨rfl, rfl, rfl, (.flats (flats_pair _))⟩, rfl, ⟨rfl, rfl, rfl, (.flats (flats_pair _))⟩, trivial⟩
  refine aw_rt ?_
  exact en_ret [sV 4 3] (by kernel_rfl)
end Go.Proofs.Ytndkhgfecnbmnaa.Am

namespace Go.Proofs.Ytndkhgfecnbmnaa.Am
open Go Go.Proofs
set_option maxRecDepth 100000
set_option maxHeartbeats 4000000
set_option linter.unusedVariables false
set_option linter.unusedSimpArgs false
theorem anorm_s2 (x1 y1 r1 x2 y2 r2 : Int) (s1 : 1 ≤ r1) (u1 : r1 ≤ 20) (v1 : -40 ≤ x1 - r1 ∧ x1 + r1 ≤ 40) (w1 : -40 ≤ y1 - r1 ∧ y1 + r1 ≤ 40) (s2 : 1 ≤ r2) (u2 : r2 ≤ 20) (v2 : -40 ≤ x2 - r2 ∧ x2 + r2 ≤ 40) (w2 : -40 ≤ y2 - r2 ∧ y2 + r2 ≤ 40) (c1 : Sp.chkF (Sp.sqr x1 y1 r1) = 0) (c2 : Sp.chkF (Sp.sqr x2 y2 r2) = 0) (F21 : Sp.Fit (Sp.sqr x2 y2 r2) (Sp.sqr x1 y1 r1) (-1) (-1)) (o2 : Sp.pcmp ((Sp.sqr x2 y2 r2).getD 0 (0, 0)).1 ((Sp.sqr x2 y2 r2).getD 0 (0, 0)).2 ((Sp.sqr x1 y1 r1).getD 0 (0, 0)).1 ((Sp.sqr x1 y1 r1).getD 0 (0, 0)).2 = 1) :
    AC Try.prog 22 3 ([sV 0 2]) [(0, ⟨[sV 1 4, sV 2 4], 30, true, 1⟩), (1, (pB (Sp.sqr x1 y1 r1))), (2, (pB (Sp.sqr x2 y2 r2)))] (sV 3 2) [(0, ⟨[sV 1 4, sV 2 4], 30, true, 1⟩), (1, (pB (Sp.sqr x1 y1 r1))), (2, (pB (Sp.sqr x2 y2 r2))), (3, ⟨[sV 4 4, sV 5 4], 30, true, 1⟩), (4, (pB (Sp.sqr x1 y1 r1))), (5, (pB (Sp.sqr x2 y2 r2)))] := by
  refine ac_in Try.func22 (fun w0 W pin => ?_)
  refine aw_p 3 (
    .a 1 3 <| .nil _ _) ?_
  refine aw_p 7 (
    .a 1 3 <| .nil _ _) ?_
  refine aw_sq 14 15 ?_
  refine aw_p 29 (
    .a 1 3 <|
    .p (cF #[.tmp 7] #[25] [sV 0 2] 1 [0, 1, 2, 3] [(0, ⟨[sV 1 4, sV 2 4], 30, true, 1⟩), (1, (pB (Sp.sqr x1 y1 r1))), (2, (pB (Sp.sqr x2 y2 r2)))] [(0, ⟨[sV 1 4, sV 2 4], 30, true, 1⟩), (1, (pB (Sp.sqr x1 y1 r1))), (2, (pB (Sp.sqr x2 y2 r2))), (3, ⟨[.int .i64 0, .int .i64 0], 3, true, 1⟩)] (sV 3 2) (adepth_s2 (Sp.sqr x1 y1 r1) (Sp.sqr x2 y2 r2) ⟨by simp [Sp.sqr, Sp.hol], by simp [Sp.sqr, Sp.hol]⟩ (Sp.few_sqr (m := 1000) (by omega) (by omega) (by omega)).1 ⟨by simp [Sp.sqr, Sp.hol], by simp [Sp.sqr, Sp.hol]⟩ (Sp.few_sqr (m := 1000) (by omega) (by omega) (by omega)).1 c1 c2 F21) (.cons rS .nil) ⟨rfl, ⟨rfl, rfl, rfl, (.cons rS (.cons rS .nil))⟩, rfl, bP, rfl, bP, trivial⟩ ⟨rfl, ⟨rfl, rfl, rfl, (.cons rS (.cons rS .nil))⟩, rfl, bP, rfl, bP, rfl, ⟨rfl, rfl, rfl, (.flats (by kernel_rfl))⟩, trivial⟩ rS) <|
    .a 2 4 <| .nil _ _) ?_
  refine aw_bl 0 59 ?_
  refine aw_lp 119 ?_
  refine al_round ?_
  refine aw_p 239 (
    .a 1 4 <| .nil _ _) ?_
  refine aw_sq 478 479 ?_
  refine aw_tr 956 ?_
  refine aw_sk ?_
  refine then_normal ?_
  refine aw_sq 958 959 ?_
  refine aw_bl 1 1917 ?_
  refine aw_p 3835 (
    .a 5 4 <| .nil _ _) ?_
  refine aw_p 7671 (
    .a 4 4 <|
    .p (cF #[.tmp 18] #[30] [sV 1 4] 1 [1, 4] [(1, (pB (Sp.sqr x1 y1 r1)))] [(1, (pB (Sp.sqr x1 y1 r1))), (4, (pB (Sp.sqr x1 y1 r1)))] (sV 4 4) (norm_n (Sp.sqr x1 y1 r1) (Sp.sqr x1 y1 r1) 0 4 (by simp [Sp.sqr, Sp.hol]) (by decide) (by decide) (by decide) (Sp.chk_diff c1).2 (Sp.sq_least s1).1 (Sp.sq_norm s1 u1 v1 w1).1) (.cons rS .nil) ⟨rfl, bP, trivial⟩ ⟨rfl, bP, rfl, bP, trivial⟩ rS) <|
    .a 1 5 <| .nil _ _) ?_
  refine aw_sq 15342 15343 ?_
  refine aw_p 30685 (
    .a 3 5 <| .nil _ _) ?_
  refine aw_fl 61371 ?_
  refine aw_sk ?_
  refine then_normal ?_
  refine aw_p1 (
    .a 3 5 <| .p (does_ap 6) <| .a 1 7 <| .nil _ _) ?_
  refine block_normal ?_
  refine then_normal ?_
  refine aw_p1 (
    .a 2 7 <| .nil _ _) ?_
  refine then_normal ?_
  refine al_round ?_
  refine aw_p 239 (
    .a 1 7 <| .nil _ _) ?_
  refine aw_sq 478 479 ?_
  refine aw_tr 956 ?_
  refine aw_sk ?_
  refine then_normal ?_
  refine aw_sq 958 959 ?_
  refine aw_bl 1 1917 ?_
  refine aw_p 3835 (
    .a 5 7 <| .nil _ _) ?_
  refine aw_p 7671 (
    .a 4 7 <|
    .p (cF #[.tmp 18] #[30] [sV 2 4] 1 [2, 7] [(2, (pB (Sp.sqr x2 y2 r2)))] [(2, (pB (Sp.sqr x2 y2 r2))), (7, (pB (Sp.sqr x2 y2 r2)))] (sV 7 4) (norm_n (Sp.sqr x2 y2 r2) (Sp.sqr x2 y2 r2) 0 4 (by simp [Sp.sqr, Sp.hol]) (by decide) (by decide) (by decide) (Sp.chk_diff c2).2 (Sp.sq_least s2).1 (Sp.sq_norm s2 u2 v2 w2).1) (.cons rS .nil) ⟨rfl, bP, trivial⟩ ⟨rfl, bP, rfl, bP, trivial⟩ rS) <|
    .a 1 8 <| .nil _ _) ?_
  refine aw_sq 15342 15343 ?_
  refine aw_p 30685 (
    .a 3 8 <| .nil _ _) ?_
  refine aw_fl 61371 ?_
  refine aw_sk ?_
  refine then_normal ?_
  refine aw_p1 (
    .a 3 8 <| .p (does_ap 9) <| .a 1 10 <| .nil _ _) ?_
  refine block_normal ?_
  refine then_normal ?_
  refine aw_p1 (
    .a 2 10 <| .nil _ _) ?_
  refine then_normal ?_
  refine al_round ?_
  refine aw_p 239 (
    .a 1 10 <| .nil _ _) ?_
  refine aw_sq 478 479 ?_
  refine aw_fl 957 ?_
  refine aw_ex 0 ?_
  refine then_exit ?_
  refine then_exit ?_
  refine block_exit ?_
  refine then_normal ?_
  refine aw_p 31 (
    .a 1 10 <|
    .p (cS #[.tmp 31, .func 66] #[25, 83] [sV 9 2, .func (.func 66) #[] #[]] [9, 4, 7] [(9, ⟨[sV 4 4, sV 7 4], 30, true, 1⟩), (4, (pB (Sp.sqr x1 y1 r1))), (7, (pB (Sp.sqr x2 y2 r2)))] (.tuple #[]) (srt_2 (Sp.sqr x1 y1 r1) (Sp.sqr x2 y2 r2) ⟨by simp [Sp.sqr, Sp.hol], by simp [Sp.sqr, Sp.hol]⟩ ⟨by simp [Sp.sqr, Sp.hol], by simp [Sp.sqr, Sp.hol]⟩ o2) (.cons rS (.cons rF .nil)) ⟨rfl, ⟨rfl, rfl, rfl, (.cons rS (.cons rS .nil))⟩, rfl, bP, rfl, bP, trivial⟩ rF) <| .nil _ _) ?_
  refine aw_p 63 (
    .a 2 10 <| .nil _ _) ?_
  refine aw_r [(3, 9), (5, 7)] [(2, sV 9 2)] [(0, ⟨[sV 1 4, sV 2 4], 30, true, 1⟩), (1, (pB (Sp.sqr x1 y1 r1))), (2, (pB (Sp.sqr x2 y2 r2))), (9, ⟨[sV 4 4, sV 7 4], 30, true, 1⟩), (4, (pB (Sp.sqr x1 y1 r1))), (7, (pB (Sp.sqr x2 y2 r2)))] [(2, sV 3 2)] [(0, ⟨[sV 1 4, sV 2 4], 30, true, 1⟩), (1, (pB (Sp.sqr x1 y1 r1))), (2, (pB (Sp.sqr x2 y2 r2))), (3, ⟨[sV 4 4, sV 5 4], 30, true, 1⟩), (4, (pB (Sp.sqr x1 y1 r1))), (5, (pB (Sp.sqr x2 y2 r2)))] ?_ ⟨rfl, (rK rfl), trivial⟩ ⟨rfl, ⟨rfl, rfl, rfl, (.cons (rK rfl) (.cons (rK rfl) .nil))⟩, rfl, ⟨rfl, rfl, rfl, (.flats (flats_pair _))⟩, rfl, ⟨rfl, rfl, rfl, (.flats (flats_pair _))⟩, rfl, ⟨rfl, rfl, rfl, (.cons (rK rfl) (.cons (rK rfl) .nil))⟩, rfl, ⟨rfl, rfl, rfl, (.flats (flats_pair _))⟩, rfl, ⟨rfl, rfl, rfl, (.flats (flats_pair _))⟩, trivial⟩
  refine aw_rt ?_
  exact en_ret [sV 3 2] (by kernel_rfl)
end Go.Proofs.Ytndkhgfecnbmnaa.Am

namespace Go.Proofs.Ytndkhgfecnbmnaa.Am
open Go Go.Proofs
set_option maxRecDepth 100000
set_option maxHeartbeats 4000000
set_option linter.unusedVariables false
set_option linter.unusedSimpArgs false
theorem cmpfd_ok (R1 R2 : List (Int × Int)) (z1 : 1 ≤ R1.length) (z2 : 1 ≤ R2.length) (y1 : R1.length ≤ 200) (y2 : R2.length ≤ 200) (o2 : Sp.pcmp (R2.getD 0 (0, 0)).1 (R2.getD 0 (0, 0)).2 (R1.getD 0 (0, 0)).1 (R1.getD 0 (0, 0)).2 = -1) :
    AC Try.prog 67 2 ([sV 0 R2.length, sV 1 R1.length, .func (.func 68) #[] #[]]) [(0, (pB R2)), (1, (pB R1))] (.int .i64 (-1)) [(0, (pB R2)), (1, (pB R1))] := by
  refine ac_in Try.func67 (fun w0 W pin => ?_)
  refine aw_p 3 (
    .a 1 2 <| .nil _ _) ?_
  refine aw_sq 6 7 ?_
  refine aw_p 13 (
    .a 3 2 <| .nil _ _) ?_
  refine aw_bl 0 27 ?_
  refine aw_lp 55 ?_
  refine al_round ?_
  refine aw_p 111 (
    .p (does_b true ((show (decide (0 < ((R2.length : Nat) : Int))) = true from decide_eq_true (by omega)))) <| .nil _ _) ?_
  refine aw_sq 222 223 ?_
  refine aw_tr 444 ?_
  refine aw_sk ?_
  refine then_normal ?_
  refine aw_sq 446 447 ?_
  refine aw_bl 1 893 ?_
  refine aw_p 1787 (
    .a 1 2 <| .p (does_indexSlice (t := 30) (x := .tmp 11) (y := .tmp 13) (k := 0) (off := 0) (n := R2.length) (c := 0) (z := 2) (kd := .i64) (j := 0) (by kernel_rfl) (by kernel_rfl) (by kernel_rfl) (by kernel_rfl) (by kernel_rfl) (by omega) (by omega)) <|
    .p (does_load (t := 28) (x := .tmp 16) (k := 0) (off := 0) (b := (pB R2)) (v := .agg #[.int .i64 ((R2.getD 0 (0, 0)).1), .int .i64 ((R2.getD 0 (0, 0)).2)]) (by kernel_rfl) (by kernel_rfl) (by kernel_rfl) (ldV_pair (j := 0) (by kernel_rfl) (by kernel_rfl) (by omega) (by omega))) <| .a 3 2 <| .nil _ _) ?_
  refine aw_sq 3574 3575 ?_
  refine aw_p 7149 (
    .a 3 3 <| .p (does_b false ((show (decide (0 ≥ ((R1.length : Nat) : Int))) = false from decide_eq_false (by omega)))) <| .nil _ _) ?_
  refine aw_fl 14299 ?_
  refine aw_sk ?_
  refine then_normal ?_
  refine aw_p 7151 (
    .a 2 3 <| .p (does_indexSlice (t := 30) (x := .tmp 22) (y := .tmp 23) (k := 1) (off := 0) (n := R1.length) (c := 0) (z := 2) (kd := .i64) (j := 0) (by kernel_rfl) (by kernel_rfl) (by kernel_rfl) (by kernel_rfl) (by kernel_rfl) (by omega) (by omega)) <|
    .p (does_load (t := 28) (x := .tmp 24) (k := 1) (off := 0) (b := (pB R1)) (v := .agg #[.int .i64 ((R1.getD 0 (0, 0)).1), .int .i64 ((R1.getD 0 (0, 0)).2)]) (by kernel_rfl) (by kernel_rfl) (by kernel_rfl) (ldV_pair (j := 0) (by kernel_rfl) (by kernel_rfl) (by omega) (by omega))) <| .a 2 3 <| .nil _ _) ?_
  refine aw_p 14303 (
    .a 3 4 <| .p (does_c ((by have h := pcmp_ok (R2.getD 0 (0, 0)).1 (R2.getD 0 (0, 0)).2 (R1.getD 0 (0, 0)).1 (R1.getD 0 (0, 0)).2; rw [o2] at h; exact h))) <| .a 1 4 <| .nil _ _) ?_
  refine aw_p 28607 (
    .a 2 4 <| .nil _ _) ?_
  refine aw_tr 57214 ?_
  refine aw_p 114429 (
    .a 2 4 <| .nil _ _) ?_
  refine aw_rt ?_
  refine block_ret ?_
  refine then_ret ?_
  refine then_ret ?_
  refine block_ret ?_
  refine then_ret ?_
  exact en_ret [.int .i64 (-1)] (by kernel_rfl)
theorem nrm1d_ok (R1 R2 : List (Int × Int)) (z1 : 1 ≤ R1.length) (z2 : 1 ≤ R2.length) (y1 : R1.length ≤ 200) (y2 : R2.length ≤ 200) (o2 : Sp.pcmp (R2.getD 0 (0, 0)).1 (R2.getD 0 (0, 0)).2 (R1.getD 0 (0, 0)).1 (R1.getD 0 (0, 0)).2 = -1) :
    AC Try.prog 66 2 ([sV 0 R2.length, sV 1 R1.length]) [(0, (pB R2)), (1, (pB R1))] (.int .i64 (-1)) [(0, (pB R2)), (1, (pB R1))] := by
  refine ac_in Try.func66 (fun w0 W pin => ?_)
  refine aw_p 3 (
    .a 1 2 <| .nil _ _) ?_
  refine aw_p 7 (
    .a 2 2 <| .p (cS #[.tmp 5, .tmp 6, .func 68] #[30, 30, 82] [sV 0 R2.length, sV 1 R1.length, .func (.func 68) #[] #[]] [0, 1] [(0, (pB R2)), (1, (pB R1))] (.int .i64 (-1)) (cmpfd_ok R1 R2 z1 z2 y1 y2 o2) (.cons rS (.cons rS (.cons rF .nil))) ⟨rfl, bP, rfl, bP, trivial⟩ rF) <| .a 1 2 <| .nil _ _) ?_
  refine aw_rt ?_
  exact en_ret [.int .i64 (-1)] (by kernel_rfl)
end Go.Proofs.Ytndkhgfecnbmnaa.Am

namespace Go.Proofs.Ytndkhgfecnbmnaa.Am
open Go Go.Proofs
set_option maxRecDepth 100000
set_option maxHeartbeats 4000000
set_option linter.unusedVariables false
set_option linter.unusedSimpArgs false
theorem insd_1 (R1 : List (Int × Int)) (zR1 : 1 ≤ R1.length ∧ R1.length ≤ 200)  :
    AC Try.prog 125 2 ([sV 0 1, .int .i64 0, .int .i64 1, .func (.func 66) #[] #[]]) [(0, ⟨[sV 1 R1.length], 30, true, 1⟩), (1, (pB R1))] (.tuple #[]) [(0, ⟨[sV 1 R1.length], 30, true, 1⟩), (1, (pB R1))] := by
  refine ac_in Try.func125 (fun w0 W pin => ?_)
  refine aw_p 3 (
    .a 3 2 <| .nil _ _) ?_
  refine aw_bl 0 7 ?_
  refine aw_lp 15 ?_
  refine al_round ?_
  refine aw_sq 30 31 ?_
  refine aw_p 61 (
    .a 3 2 <| .nil _ _) ?_
  refine aw_fl 123 ?_
  refine aw_ex 0 ?_
  refine then_exit ?_
  refine then_exit ?_
  refine block_exit ?_
  exact en_normal [] (by kernel_rfl)
theorem pdqd_1 (R1 : List (Int × Int)) (zR1 : 1 ≤ R1.length ∧ R1.length ≤ 200)  :
    AC Try.prog 104 2 ([sV 0 1, .int .i64 0, .int .i64 1, .int .i64 1, .func (.func 66) #[] #[]]) [(0, ⟨[sV 1 R1.length], 30, true, 1⟩), (1, (pB R1))] (.tuple #[]) [(0, ⟨[sV 1 R1.length], 30, true, 1⟩), (1, (pB R1))] := by
  refine ac_in Try.func104 (fun w0 W pin => ?_)
  refine aw_p 3 (
    .a 1 2 <| .nil _ _) ?_
  refine aw_p 7 (
    .a 1 2 <| .nil _ _) ?_
  refine aw_bl 0 15 ?_
  refine aw_lp 31 ?_
  refine al_round ?_
  refine aw_bl 1 63 ?_
  refine aw_p 127 (
    .a 4 2 <| .nil _ _) ?_
  refine aw_sq 254 255 ?_
  refine aw_p 509 (
    .a 2 2 <| .nil _ _) ?_
  refine aw_tr 1018 ?_
  refine aw_p 2037 (
    .a 4 2 <|
    .p (cS #[.tmp 26, .tmp 27, .tmp 28, .tmp 29] #[24, 3, 3, 83] [sV 0 1, .int .i64 0, .int .i64 1, .func (.func 66) #[] #[]] [0, 1] [(0, ⟨[sV 1 R1.length], 30, true, 1⟩), (1, (pB R1))] (.tuple #[]) (insd_1 R1 zR1 ) (.cons rS (.cons rF (.cons rF (.cons rF .nil)))) ⟨rfl, ⟨rfl, rfl, rfl, (.cons rS .nil)⟩, rfl, bP, trivial⟩ rF) <| .nil _ _) ?_
  refine aw_rt ?_
  refine then_ret ?_
  refine block_ret ?_
  refine then_ret ?_
  refine block_ret ?_
  exact en_ret [] (by kernel_rfl)
theorem srtd_1 (R1 : List (Int × Int)) (zR1 : 1 ≤ R1.length ∧ R1.length ≤ 200)  :
    AC Try.prog 65 2 ([sV 0 1, .func (.func 66) #[] #[]]) [(0, ⟨[sV 1 R1.length], 30, true, 1⟩), (1, (pB R1))] (.tuple #[]) [(0, ⟨[sV 1 R1.length], 30, true, 1⟩), (1, (pB R1))] := by
  refine ac_in Try.func65 (fun w0 W pin => ?_)
  refine aw_p 3 (
    .a 3 2 <| .nil _ _) ?_
  refine aw_p1 (
    .a 4 2 <| .p (does_c (auy_2)) <| .a 1 2 <|
    .p (cS #[.tmp 7, .const (.int .i64 0), .tmp 8, .tmp 11, .tmp 12] #[24, 3, 3, 3, 83] [sV 0 1, .int .i64 0, .int .i64 1, .int .i64 1, .func (.func 66) #[] #[]] [0, 1] [(0, ⟨[sV 1 R1.length], 30, true, 1⟩), (1, (pB R1))] (.tuple #[]) (pdqd_1 R1 zR1 ) (.cons rS (.cons rF (.cons rF (.cons rF (.cons rF .nil))))) ⟨rfl, ⟨rfl, rfl, rfl, (.cons rS .nil)⟩, rfl, bP, trivial⟩ rF) <| .nil _ _) ?_
  exact en_normal [] (by kernel_rfl)
theorem insd_2 (R1 R2 : List (Int × Int)) (zR1 : 1 ≤ R1.length ∧ R1.length ≤ 200) (zR2 : 1 ≤ R2.length ∧ R2.length ≤ 200) (o21 : Sp.pcmp (R2.getD 0 (0, 0)).1 (R2.getD 0 (0, 0)).2 (R1.getD 0 (0, 0)).1 (R1.getD 0 (0, 0)).2 = -1) :
    AC Try.prog 125 3 ([sV 0 2, .int .i64 0, .int .i64 2, .func (.func 66) #[] #[]]) [(0, ⟨[sV 1 R1.length, sV 2 R2.length], 30, true, 1⟩), (1, (pB R1)), (2, (pB R2))] (.tuple #[]) [(0, ⟨[sV 2 R2.length, sV 1 R1.length], 30, true, 1⟩), (1, (pB R1)), (2, (pB R2))] := by
  refine ac_in Try.func125 (fun w0 W pin => ?_)
  refine aw_p 3 (
    .a 3 3 <| .nil _ _) ?_
  refine aw_bl 0 7 ?_
  refine aw_lp 15 ?_
  refine al_round ?_
  refine aw_sq 30 31 ?_
  refine aw_p 61 (
    .a 3 3 <| .nil _ _) ?_
  refine aw_tr 122 ?_
  refine aw_sk ?_
  refine then_normal ?_
  refine aw_sq 62 63 ?_
  refine aw_bl 1 125 ?_
  refine aw_p 251 (
    .a 2 3 <| .nil _ _) ?_
  refine aw_bl 2 503 ?_
  refine aw_lp 1007 ?_
  refine al_round ?_
  refine aw_sq 2014 2015 ?_
  refine aw_d 4029 (
    .a 14 3 <|
    .p (does_callB (x := .tmp 22) (ars := #[.tmp 26, .tmp 31]) (ats := #[30, 30]) (g := 66) (vs := [sV 2 R2.length, sV 1 R1.length]) (m := 2) (r := 0) (firsts := #[]) (caps := #[]) (args0 := [sV 0 R2.length, sV 1 R1.length]) (pre0 := [(0, (pB R2)), (1, (pB R1))]) (post0 := [(0, (pB R2)), (1, (pB R1))]) (pre := [(2, (pB R2)), (1, (pB R1))]) (post := [(2, (pB R2)), (1, (pB R1))]) (v0 := .int .i64 (-1)) (v := .int .i64 (-1)) [2, 1] (by kernel_rfl) (by kernel_rfl) (by kernel_rfl) (by kernel_rfl) (nrm1d_ok R1 R2 zR1.1 zR2.1 zR1.2 zR2.2 o21) (.cons rS (.cons rS .nil)) ⟨rfl, bP, rfl, bP, trivial⟩ (by kernel_rfl) (by kernel_rfl) (by kernel_rfl) ⟨rfl, bP, rfl, bP, trivial⟩ rF) <|
    .a 2 3 <| .nil _ _) ?_
  refine aw_tr 8058 ?_
  refine aw_sk ?_
  refine then_normal ?_
  refine aw_sq 4030 4031 ?_
  refine aw_bl 3 8061 ?_
  refine aw_d1 (
    .a 18 3 <| .nil _ _) ?_
  refine block_normal ?_
  refine then_normal ?_
  refine aw_p1 (
    .a 3 3 <| .nil _ _) ?_
  refine then_normal ?_
  refine al_round ?_
  refine aw_sq 2014 2015 ?_
  refine aw_d 4029 (
    .a 17 3 <| .nil _ _) ?_
  refine aw_fl 8059 ?_
  refine aw_ex 2 ?_
  refine then_exit ?_
  refine then_exit ?_
  refine block_exit ?_
  refine block_normal ?_
  refine then_normal ?_
  refine aw_p1 (
    .a 3 3 <| .nil _ _) ?_
  refine then_normal ?_
  refine al_round ?_
  refine aw_sq 30 31 ?_
  refine aw_p 61 (
    .a 3 3 <| .nil _ _) ?_
  refine aw_fl 123 ?_
  refine aw_ex 0 ?_
  refine then_exit ?_
  refine then_exit ?_
  refine block_exit ?_
  exact en_normal [] (by kernel_rfl)
theorem pdqd_2 (R1 R2 : List (Int × Int)) (zR1 : 1 ≤ R1.length ∧ R1.length ≤ 200) (zR2 : 1 ≤ R2.length ∧ R2.length ≤ 200) (o21 : Sp.pcmp (R2.getD 0 (0, 0)).1 (R2.getD 0 (0, 0)).2 (R1.getD 0 (0, 0)).1 (R1.getD 0 (0, 0)).2 = -1) :
    AC Try.prog 104 3 ([sV 0 2, .int .i64 0, .int .i64 2, .int .i64 2, .func (.func 66) #[] #[]]) [(0, ⟨[sV 1 R1.length, sV 2 R2.length], 30, true, 1⟩), (1, (pB R1)), (2, (pB R2))] (.tuple #[]) [(0, ⟨[sV 2 R2.length, sV 1 R1.length], 30, true, 1⟩), (1, (pB R1)), (2, (pB R2))] := by
  refine ac_in Try.func104 (fun w0 W pin => ?_)
  refine aw_p 3 (
    .a 1 3 <| .nil _ _) ?_
  refine aw_p 7 (
    .a 1 3 <| .nil _ _) ?_
  refine aw_bl 0 15 ?_
  refine aw_lp 31 ?_
  refine al_round ?_
  refine aw_bl 1 63 ?_
  refine aw_p 127 (
    .a 4 3 <| .nil _ _) ?_
  refine aw_sq 254 255 ?_
  refine aw_p 509 (
    .a 2 3 <| .nil _ _) ?_
  refine aw_tr 1018 ?_
  refine aw_p 2037 (
    .a 4 3 <|
    .p (cF #[.tmp 26, .tmp 27, .tmp 28, .tmp 29] #[24, 3, 3, 83] [sV 0 2, .int .i64 0, .int .i64 2, .func (.func 66) #[] #[]] 0 [0, 1, 2] [(0, ⟨[sV 1 R1.length, sV 2 R2.length], 30, true, 1⟩), (1, (pB R1)), (2, (pB R2))] [(0, ⟨[sV 2 R2.length, sV 1 R1.length], 30, true, 1⟩), (1, (pB R1)), (2, (pB R2))] (.tuple #[]) (insd_2 R1 R2 zR1 zR2 o21) (.cons rS (.cons rF (.cons rF (.cons rF .nil)))) ⟨rfl, ⟨rfl, rfl, rfl, (.cons rS (.cons rS .nil))⟩, rfl, bP, rfl, bP, trivial⟩ ⟨rfl, ⟨rfl, rfl, rfl, (.cons rS (.cons rS .nil))⟩, rfl, bP, rfl, bP, trivial⟩ rF) <| .nil _ _) ?_
  refine aw_rt ?_
  refine then_ret ?_
  refine block_ret ?_
  refine then_ret ?_
  refine block_ret ?_
  exact en_ret [] (by kernel_rfl)
theorem srtd_2 (R1 R2 : List (Int × Int)) (zR1 : 1 ≤ R1.length ∧ R1.length ≤ 200) (zR2 : 1 ≤ R2.length ∧ R2.length ≤ 200) (o21 : Sp.pcmp (R2.getD 0 (0, 0)).1 (R2.getD 0 (0, 0)).2 (R1.getD 0 (0, 0)).1 (R1.getD 0 (0, 0)).2 = -1) :
    AC Try.prog 65 3 ([sV 0 2, .func (.func 66) #[] #[]]) [(0, ⟨[sV 1 R1.length, sV 2 R2.length], 30, true, 1⟩), (1, (pB R1)), (2, (pB R2))] (.tuple #[]) [(0, ⟨[sV 2 R2.length, sV 1 R1.length], 30, true, 1⟩), (1, (pB R1)), (2, (pB R2))] := by
  refine ac_in Try.func65 (fun w0 W pin => ?_)
  refine aw_p 3 (
    .a 3 3 <| .nil _ _) ?_
  refine aw_p1 (
    .a 4 3 <| .p (does_c (auy_4)) <| .a 1 3 <|
    .p (cF #[.tmp 7, .const (.int .i64 0), .tmp 8, .tmp 11, .tmp 12] #[24, 3, 3, 3, 83] [sV 0 2, .int .i64 0, .int .i64 2, .int .i64 2, .func (.func 66) #[] #[]] 0 [0, 1, 2] [(0, ⟨[sV 1 R1.length, sV 2 R2.length], 30, true, 1⟩), (1, (pB R1)), (2, (pB R2))] [(0, ⟨[sV 2 R2.length, sV 1 R1.length], 30, true, 1⟩), (1, (pB R1)), (2, (pB R2))] (.tuple #[]) (pdqd_2 R1 R2 zR1 zR2 o21) (.cons rS (.cons rF (.cons rF (.cons rF (.cons rF .nil))))) ⟨rfl, ⟨rfl, rfl, rfl, (.cons rS (.cons rS .nil))⟩, rfl, bP, rfl, bP, trivial⟩ ⟨rfl, ⟨rfl, rfl, rfl, (.cons rS (.cons rS .nil))⟩, rfl, bP, rfl, bP, trivial⟩ rF) <| .nil _ _) ?_
  exact en_normal [] (by kernel_rfl)
theorem insd_3 (R1 R2 R3 : List (Int × Int)) (zR1 : 1 ≤ R1.length ∧ R1.length ≤ 200) (zR2 : 1 ≤ R2.length ∧ R2.length ≤ 200) (zR3 : 1 ≤ R3.length ∧ R3.length ≤ 200) (o21 : Sp.pcmp (R2.getD 0 (0, 0)).1 (R2.getD 0 (0, 0)).2 (R1.getD 0 (0, 0)).1 (R1.getD 0 (0, 0)).2 = -1) (o31 : Sp.pcmp (R3.getD 0 (0, 0)).1 (R3.getD 0 (0, 0)).2 (R1.getD 0 (0, 0)).1 (R1.getD 0 (0, 0)).2 = -1) (o32 : Sp.pcmp (R3.getD 0 (0, 0)).1 (R3.getD 0 (0, 0)).2 (R2.getD 0 (0, 0)).1 (R2.getD 0 (0, 0)).2 = -1) :
    AC Try.prog 125 4 ([sV 0 3, .int .i64 0, .int .i64 3, .func (.func 66) #[] #[]]) [(0, ⟨[sV 1 R1.length, sV 2 R2.length, sV 3 R3.length], 30, true, 1⟩), (1, (pB R1)), (2, (pB R2)), (3, (pB R3))] (.tuple #[]) [(0, ⟨[sV 3 R3.length, sV 2 R2.length, sV 1 R1.length], 30, true, 1⟩), (1, (pB R1)), (2, (pB R2)), (3, (pB R3))] := by
  refine ac_in Try.func125 (fun w0 W pin => ?_)
  refine aw_p 3 (
    .a 3 4 <| .nil _ _) ?_
  refine aw_bl 0 7 ?_
  refine aw_lp 15 ?_
  refine al_round ?_
  refine aw_sq 30 31 ?_
  refine aw_p 61 (
    .a 3 4 <| .nil _ _) ?_
  refine aw_tr 122 ?_
  refine aw_sk ?_
  refine then_normal ?_
  refine aw_sq 62 63 ?_
  refine aw_bl 1 125 ?_
  refine aw_p 251 (
    .a 2 4 <| .nil _ _) ?_
  refine aw_bl 2 503 ?_
  refine aw_lp 1007 ?_
  refine al_round ?_
  refine aw_sq 2014 2015 ?_
  refine aw_d 4029 (
    .a 14 4 <|
    .p (does_callB (x := .tmp 22) (ars := #[.tmp 26, .tmp 31]) (ats := #[30, 30]) (g := 66) (vs := [sV 2 R2.length, sV 1 R1.length]) (m := 2) (r := 0) (firsts := #[]) (caps := #[]) (args0 := [sV 0 R2.length, sV 1 R1.length]) (pre0 := [(0, (pB R2)), (1, (pB R1))]) (post0 := [(0, (pB R2)), (1, (pB R1))]) (pre := [(2, (pB R2)), (1, (pB R1))]) (post := [(2, (pB R2)), (1, (pB R1))]) (v0 := .int .i64 (-1)) (v := .int .i64 (-1)) [2, 1] (by kernel_rfl) (by kernel_rfl) (by kernel_rfl) (by kernel_rfl) (nrm1d_ok R1 R2 zR1.1 zR2.1 zR1.2 zR2.2 o21) (.cons rS (.cons rS .nil)) ⟨rfl, bP, rfl, bP, trivial⟩ (by kernel_rfl) (by kernel_rfl) (by kernel_rfl) ⟨rfl, bP, rfl, bP, trivial⟩ rF) <|
    .a 2 4 <| .nil _ _) ?_
  refine aw_tr 8058 ?_
  refine aw_sk ?_
  refine then_normal ?_
  refine aw_sq 4030 4031 ?_
  refine aw_bl 3 8061 ?_
  refine aw_d1 (
    .a 18 4 <| .nil _ _) ?_
  refine block_normal ?_
  refine then_normal ?_
  refine aw_p1 (
    .a 3 4 <| .nil _ _) ?_
  refine then_normal ?_
  refine al_round ?_
  refine aw_sq 2014 2015 ?_
  refine aw_d 4029 (
    .a 17 4 <| .nil _ _) ?_
  refine aw_fl 8059 ?_
  refine aw_ex 2 ?_
  refine then_exit ?_
  refine then_exit ?_
  refine block_exit ?_
  refine block_normal ?_
  refine then_normal ?_
  refine aw_p1 (
    .a 3 4 <| .nil _ _) ?_
  refine then_normal ?_
  refine al_round ?_
  refine aw_sq 30 31 ?_
  refine aw_p 61 (
    .a 3 4 <| .nil _ _) ?_
  refine aw_tr 122 ?_
  refine aw_sk ?_
  refine then_normal ?_
  refine aw_sq 62 63 ?_
  refine aw_bl 1 125 ?_
  refine aw_p 251 (
    .a 2 4 <| .nil _ _) ?_
  refine aw_bl 2 503 ?_
  refine aw_lp 1007 ?_
  refine al_round ?_
  refine aw_sq 2014 2015 ?_
  refine aw_d 4029 (
    .a 14 4 <|
    .p (does_callB (x := .tmp 22) (ars := #[.tmp 26, .tmp 31]) (ats := #[30, 30]) (g := 66) (vs := [sV 3 R3.length, sV 1 R1.length]) (m := 2) (r := 0) (firsts := #[]) (caps := #[]) (args0 := [sV 0 R3.length, sV 1 R1.length]) (pre0 := [(0, (pB R3)), (1, (pB R1))]) (post0 := [(0, (pB R3)), (1, (pB R1))]) (pre := [(3, (pB R3)), (1, (pB R1))]) (post := [(3, (pB R3)), (1, (pB R1))]) (v0 := .int .i64 (-1)) (v := .int .i64 (-1)) [3, 1] (by kernel_rfl) (by kernel_rfl) (by kernel_rfl) (by kernel_rfl) (nrm1d_ok R1 R3 zR1.1 zR3.1 zR1.2 zR3.2 o31) (.cons rS (.cons rS .nil)) ⟨rfl, bP, rfl, bP, trivial⟩ (by kernel_rfl) (by kernel_rfl) (by kernel_rfl) ⟨rfl, bP, rfl, bP, trivial⟩ rF) <|
    .a 2 4 <| .nil _ _) ?_
  refine aw_tr 8058 ?_
  refine aw_sk ?_
  refine then_normal ?_
  refine aw_sq 4030 4031 ?_
  refine aw_bl 3 8061 ?_
  refine aw_d1 (
    .a 18 4 <| .nil _ _) ?_
  refine block_normal ?_
  refine then_normal ?_
  refine aw_p1 (
    .a 3 4 <| .nil _ _) ?_
  refine then_normal ?_
  refine al_round ?_
  refine aw_sq 2014 2015 ?_
  refine aw_d 4029 (
    .a 14 4 <|
    .p (does_callB (x := .tmp 22) (ars := #[.tmp 26, .tmp 31]) (ats := #[30, 30]) (g := 66) (vs := [sV 3 R3.length, sV 2 R2.length]) (m := 2) (r := 0) (firsts := #[]) (caps := #[]) (args0 := [sV 0 R3.length, sV 1 R2.length]) (pre0 := [(0, (pB R3)), (1, (pB R2))]) (post0 := [(0, (pB R3)), (1, (pB R2))]) (pre := [(3, (pB R3)), (2, (pB R2))]) (post := [(3, (pB R3)), (2, (pB R2))]) (v0 := .int .i64 (-1)) (v := .int .i64 (-1)) [3, 2] (by kernel_rfl) (by kernel_rfl) (by kernel_rfl) (by kernel_rfl) (nrm1d_ok R2 R3 zR2.1 zR3.1 zR2.2 zR3.2 o32) (.cons rS (.cons rS .nil)) ⟨rfl, bP, rfl, bP, trivial⟩ (by kernel_rfl) (by kernel_rfl) (by kernel_rfl) ⟨rfl, bP, rfl, bP, trivial⟩ rF) <|
    .a 2 4 <| .nil _ _) ?_
  refine aw_tr 8058 ?_
  refine aw_sk ?_
  refine then_normal ?_
  refine aw_sq 4030 4031 ?_
  refine aw_bl 3 8061 ?_
  refine aw_d1 (
    .a 18 4 <| .nil _ _) ?_
  refine block_normal ?_
  refine then_normal ?_
  refine aw_p1 (
    .a 3 4 <| .nil _ _) ?_
  refine then_normal ?_
  refine al_round ?_
  refine aw_sq 2014 2015 ?_
  refine aw_d 4029 (
    .a 17 4 <| .nil _ _) ?_
  refine aw_fl 8059 ?_
  refine aw_ex 2 ?_
  refine then_exit ?_
  refine then_exit ?_
  refine block_exit ?_
  refine block_normal ?_
  refine then_normal ?_
  refine aw_p1 (
    .a 3 4 <| .nil _ _) ?_
  refine then_normal ?_
  refine al_round ?_
  refine aw_sq 30 31 ?_
  refine aw_p 61 (
    .a 3 4 <| .nil _ _) ?_
  refine aw_fl 123 ?_
  refine aw_ex 0 ?_
  refine then_exit ?_
  refine then_exit ?_
  refine block_exit ?_
  exact en_normal [] (by kernel_rfl)
theorem pdqd_3 (R1 R2 R3 : List (Int × Int)) (zR1 : 1 ≤ R1.length ∧ R1.length ≤ 200) (zR2 : 1 ≤ R2.length ∧ R2.length ≤ 200) (zR3 : 1 ≤ R3.length ∧ R3.length ≤ 200) (o21 : Sp.pcmp (R2.getD 0 (0, 0)).1 (R2.getD 0 (0, 0)).2 (R1.getD 0 (0, 0)).1 (R1.getD 0 (0, 0)).2 = -1) (o31 : Sp.pcmp (R3.getD 0 (0, 0)).1 (R3.getD 0 (0, 0)).2 (R1.getD 0 (0, 0)).1 (R1.getD 0 (0, 0)).2 = -1) (o32 : Sp.pcmp (R3.getD 0 (0, 0)).1 (R3.getD 0 (0, 0)).2 (R2.getD 0 (0, 0)).1 (R2.getD 0 (0, 0)).2 = -1) :
    AC Try.prog 104 4 ([sV 0 3, .int .i64 0, .int .i64 3, .int .i64 2, .func (.func 66) #[] #[]]) [(0, ⟨[sV 1 R1.length, sV 2 R2.length, sV 3 R3.length], 30, true, 1⟩), (1, (pB R1)), (2, (pB R2)), (3, (pB R3))] (.tuple #[]) [(0, ⟨[sV 3 R3.length, sV 2 R2.length, sV 1 R1.length], 30, true, 1⟩), (1, (pB R1)), (2, (pB R2)), (3, (pB R3))] := by
  refine ac_in Try.func104 (fun w0 W pin => ?_)
  refine aw_p 3 (
    .a 1 4 <| .nil _ _) ?_
  refine aw_p 7 (
    .a 1 4 <| .nil _ _) ?_
  refine aw_bl 0 15 ?_
  refine aw_lp 31 ?_
  refine al_round ?_
  refine aw_bl 1 63 ?_
  refine aw_p 127 (
    .a 4 4 <| .nil _ _) ?_
  refine aw_sq 254 255 ?_
  refine aw_p 509 (
    .a 2 4 <| .nil _ _) ?_
  refine aw_tr 1018 ?_
  refine aw_p 2037 (
    .a 4 4 <|
    .p (cF #[.tmp 26, .tmp 27, .tmp 28, .tmp 29] #[24, 3, 3, 83] [sV 0 3, .int .i64 0, .int .i64 3, .func (.func 66) #[] #[]] 0 [0, 1, 2, 3] [(0, ⟨[sV 1 R1.length, sV 2 R2.length, sV 3 R3.length], 30, true, 1⟩), (1, (pB R1)), (2, (pB R2)), (3, (pB R3))] [(0, ⟨[sV 3 R3.length, sV 2 R2.length, sV 1 R1.length], 30, true, 1⟩), (1, (pB R1)), (2, (pB R2)), (3, (pB R3))] (.tuple #[]) (insd_3 R1 R2 R3 zR1 zR2 zR3 o21 o31 o32) (.cons rS (.cons rF (.cons rF (.cons rF .nil)))) ⟨rfl, ⟨rfl, rfl, rfl, (.cons rS (.cons rS (.cons rS .nil)))⟩, rfl, bP, rfl, bP, rfl, bP, trivial⟩ ⟨rfl, ⟨rfl, rfl, rfl, (.cons rS (.cons rS (.cons rS .nil)))⟩, rfl, bP, rfl, bP, rfl, bP, trivial⟩ rF) <| .nil _ _) ?_
  refine aw_rt ?_
  refine then_ret ?_
  refine block_ret ?_
  refine then_ret ?_
  refine block_ret ?_
  exact en_ret [] (by kernel_rfl)
theorem srtd_3 (R1 R2 R3 : List (Int × Int)) (zR1 : 1 ≤ R1.length ∧ R1.length ≤ 200) (zR2 : 1 ≤ R2.length ∧ R2.length ≤ 200) (zR3 : 1 ≤ R3.length ∧ R3.length ≤ 200) (o21 : Sp.pcmp (R2.getD 0 (0, 0)).1 (R2.getD 0 (0, 0)).2 (R1.getD 0 (0, 0)).1 (R1.getD 0 (0, 0)).2 = -1) (o31 : Sp.pcmp (R3.getD 0 (0, 0)).1 (R3.getD 0 (0, 0)).2 (R1.getD 0 (0, 0)).1 (R1.getD 0 (0, 0)).2 = -1) (o32 : Sp.pcmp (R3.getD 0 (0, 0)).1 (R3.getD 0 (0, 0)).2 (R2.getD 0 (0, 0)).1 (R2.getD 0 (0, 0)).2 = -1) :
    AC Try.prog 65 4 ([sV 0 3, .func (.func 66) #[] #[]]) [(0, ⟨[sV 1 R1.length, sV 2 R2.length, sV 3 R3.length], 30, true, 1⟩), (1, (pB R1)), (2, (pB R2)), (3, (pB R3))] (.tuple #[]) [(0, ⟨[sV 3 R3.length, sV 2 R2.length, sV 1 R1.length], 30, true, 1⟩), (1, (pB R1)), (2, (pB R2)), (3, (pB R3))] := by
  refine ac_in Try.func65 (fun w0 W pin => ?_)
  refine aw_p 3 (
    .a 3 4 <| .nil _ _) ?_
  refine aw_p1 (
    .a 4 4 <| .p (does_c (auy_6)) <| .a 1 4 <|
    .p (cF #[.tmp 7, .const (.int .i64 0), .tmp 8, .tmp 11, .tmp 12] #[24, 3, 3, 3, 83] [sV 0 3, .int .i64 0, .int .i64 3, .int .i64 2, .func (.func 66) #[] #[]] 0 [0, 1, 2, 3] [(0, ⟨[sV 1 R1.length, sV 2 R2.length, sV 3 R3.length], 30, true, 1⟩), (1, (pB R1)), (2, (pB R2)), (3, (pB R3))] [(0, ⟨[sV 3 R3.length, sV 2 R2.length, sV 1 R1.length], 30, true, 1⟩), (1, (pB R1)), (2, (pB R2)), (3, (pB R3))] (.tuple #[]) (pdqd_3 R1 R2 R3 zR1 zR2 zR3 o21 o31 o32) (.cons rS (.cons rF (.cons rF (.cons rF (.cons rF .nil))))) ⟨rfl, ⟨rfl, rfl, rfl, (.cons rS (.cons rS (.cons rS .nil)))⟩, rfl, bP, rfl, bP, rfl, bP, trivial⟩ ⟨rfl, ⟨rfl, rfl, rfl, (.cons rS (.cons rS (.cons rS .nil)))⟩, rfl, bP, rfl, bP, rfl, bP, trivial⟩ rF) <| .nil _ _) ?_
  exact en_normal [] (by kernel_rfl)
end Go.Proofs.Ytndkhgfecnbmnaa.Am

set_option linter.unusedVariables false
set_option linter.unusedSimpArgs false
namespace Go.Proofs.Ytndkhgfecnbmnaa.Am.Sp
open Go
def sqb (x y r : Int) : List (Int × Int) := [(x - r, y + r), (x + r, y + r), (x + r, y - r), (x - r, y - r)]
def hob (x y r : Int) : List (Int × Int) := [(x + r, y - r), (x + r, y + r), (x - r, y + r), (x - r, y - r)]
theorem sqb_move (x y r dx : Int) : sqb (x + dx) y r = (sqb dx 0 r).map (move2 (x, y)) := by
  simp only [sqb, List.map_cons, List.map_nil, move2, List.cons.injEq, Prod.mk.injEq, and_true]; omega
theorem sqb_at (x y r : Int) : sqb x y r = (sqb 0 0 r).map (move2 (x, y)) := by have := sqb_move x y r 0; rwa [Int.add_zero] at this
theorem hob_at (x y r : Int) : hob x y r = (hob 0 0 r).map (move2 (x, y)) := by
  simp only [hob, List.map_cons, List.map_nil, move2, List.cons.injEq, Prod.mk.injEq, and_true]; omega
theorem few_sqb {x y r m : Int} (hr : 0 ≤ r) (hx : -m ≤ x - r ∧ x + r ≤ m) (hy : -m ≤ y - r ∧ y + r ≤ m) : Few m (sqb x y r) ∧ Few m (hob x y r) :=
  ⟨few_of (by omega) (by simp only [sqb, List.mem_cons, List.not_mem_nil, or_false, forall_eq_or_imp, forall_eq]; omega), few_of (by omega) (by simp only [hob, List.mem_cons, List.not_mem_nil, or_false, forall_eq_or_imp, forall_eq]; omega)⟩
set_option maxRecDepth 100000 in
theorem sqb_ring : ((List.range 16).all fun r => r == 0 || (allap (sqb 0 0 r) 4 && allap (hob 0 0 r) 4)) = true := by decide +kernel
set_option maxRecDepth 100000 in
theorem sqb_hob : ((List.range 16).all fun r => Nat.blt r 6 || (List.range (r - 2)).all fun k => decide (Fit (sqb 0 0 r) (hob 0 0 (k + 1 : Nat)) (-1) 1)) = true := by decide +kernel
set_option maxRecDepth 100000 in
theorem sqb_sqb : ((List.range 16).all fun r => Nat.blt r 6 || (List.range (r - 4)).all fun j => decide (Fit (sqb 0 0 r) (sqb 0 0 (j + 1 : Nat)) (-1) 1)) = true := by decide +kernel
set_option maxRecDepth 100000 in
theorem hob_sqb : ((List.range 14).all fun k => Nat.blt k 3 || (List.range (k - 2)).all fun j => decide (Fit (hob 0 0 k) (sqb 0 0 (j + 1 : Nat)) (-1) 1)) = true := by decide +kernel
set_option maxRecDepth 100000 in
theorem sqb_by : ((List.range 16).all fun r => Nat.blt r 6 || (List.range 3).all fun d => decide (Fit (sqb 0 0 r) (sqb (r + 3 + d : Nat) 0 2) (-1) (-1))) = true := by decide +kernel
theorem sqb_good {x y r : Int} (h1 : 1 ≤ r) (h2 : r ≤ 15) (hx : -60 ≤ x ∧ x ≤ 60) (hy : -60 ≤ y ∧ y ≤ 60) : chkF (sqb x y r) = 0 ∧ chkF (hob x y r) = 0 := by
  obtain ⟨n, rfl⟩ : ∃ n : Nat, r = (n : Int) := ⟨r.toNat, by omega⟩
  have h := all_at (f := fun r : Nat => r == 0 || (allap (sqb 0 0 r) 4 && allap (hob 0 0 r) 4)) sqb_ring (show n < 16 by omega)
  simp only [Bool.or_eq_true, beq_iff_eq, Bool.and_eq_true] at h
  have h : allap (sqb 0 0 n) 4 = true ∧ allap (hob 0 0 n) 4 = true := h.resolve_left (by omega)
  have f0 := few_sqb (x := 0) (y := 0) (r := (n : Int)) (m := 200) (by omega) (by omega) (by omega)
  have f1 := few_sqb (x := x) (y := y) (r := (n : Int)) (m := 200) (by omega) (by omega) (by omega)
  constructor
  · refine chk_of (by simp [sqb]) (by simp [sqb]) (few_nok (by decide) f1.1) ?_
    rw [sqb_at]; exact allap_move (m := 200) (by decide) f0.1 (by omega) (by omega) (by simp [sqb]) h.1
  · refine chk_of (by simp [hob]) (by simp [hob]) (few_nok (by decide) f1.2) ?_
    rw [hob_at]; exact allap_move (m := 200) (by decide) f0.2 (by omega) (by omega) (by simp [hob]) h.2
section
variable {x y r k j d : Int}
theorem fit_rhs (h1 : 6 ≤ r) (h2 : r ≤ 15) (k1 : 1 ≤ k) (k2 : k ≤ r - 2) (hx : -60 ≤ x ∧ x ≤ 60) (hy : -60 ≤ y ∧ y ≤ 60) : Fit (sqb x y r) (hob x y k) (-1) 1 := by
  obtain ⟨n, rfl⟩ : ∃ n : Nat, r = (n : Int) := ⟨r.toNat, by omega⟩
  obtain ⟨m, rfl⟩ : ∃ m : Nat, k = ((m + 1 : Nat) : Int) := ⟨(k - 1).toNat, by omega⟩
  have h := all_at (f := fun r : Nat => Nat.blt r 6 || (List.range (r - 2)).all fun k : Nat => decide (Fit (sqb 0 0 r) (hob 0 0 (k + 1 : Nat)) (-1) 1)) sqb_hob (show n < 16 by omega)
  rw [blt6 (show 6 ≤ n by omega), Bool.false_or] at h
  have h := of_decide_eq_true (all_at (f := fun k : Nat => decide (Fit (sqb 0 0 n) (hob 0 0 (k + 1 : Nat)) (-1) 1)) h (show m < n - 2 by omega))
  rw [hob_at, sqb_at]
  exact fit_move (few_sqb (m := 200) (by omega) (by omega) (by omega)).1 (few_sqb (m := 200) (by omega) (by omega) (by omega)).2 (by omega) (by omega) h
theorem fit_rss (h1 : 6 ≤ r) (h2 : r ≤ 15) (k1 : 1 ≤ j) (k2 : j ≤ r - 4) (hx : -60 ≤ x ∧ x ≤ 60) (hy : -60 ≤ y ∧ y ≤ 60) : Fit (sqb x y r) (sqb x y j) (-1) 1 := by
  obtain ⟨n, rfl⟩ : ∃ n : Nat, r = (n : Int) := ⟨r.toNat, by omega⟩
  obtain ⟨m, rfl⟩ : ∃ m : Nat, j = ((m + 1 : Nat) : Int) := ⟨(j - 1).toNat, by omega⟩
  have h := all_at (f := fun r : Nat => Nat.blt r 6 || (List.range (r - 4)).all fun k : Nat => decide (Fit (sqb 0 0 r) (sqb 0 0 (k + 1 : Nat)) (-1) 1)) sqb_sqb (show n < 16 by omega)
  rw [blt6 (show 6 ≤ n by omega), Bool.false_or] at h
  have h := of_decide_eq_true (all_at (f := fun k : Nat => decide (Fit (sqb 0 0 n) (sqb 0 0 (k + 1 : Nat)) (-1) 1)) h (show m < n - 4 by omega))
  rw [sqb_at, sqb_at x y ((m + 1 : Nat) : Int)]
  exact fit_move (few_sqb (m := 200) (by omega) (by omega) (by omega)).1 (few_sqb (m := 200) (by omega) (by omega) (by omega)).1 (by omega) (by omega) h
theorem fit_rsh (h1 : 3 ≤ k) (h2 : k ≤ 13) (k1 : 1 ≤ j) (k2 : j ≤ k - 2) (hx : -60 ≤ x ∧ x ≤ 60) (hy : -60 ≤ y ∧ y ≤ 60) : Fit (hob x y k) (sqb x y j) (-1) 1 := by
  obtain ⟨n, rfl⟩ : ∃ n : Nat, k = (n : Int) := ⟨k.toNat, by omega⟩
  obtain ⟨m, rfl⟩ : ∃ m : Nat, j = ((m + 1 : Nat) : Int) := ⟨(j - 1).toNat, by omega⟩
  have h := all_at (f := fun r : Nat => Nat.blt r 3 || (List.range (r - 2)).all fun k : Nat => decide (Fit (hob 0 0 r) (sqb 0 0 (k + 1 : Nat)) (-1) 1)) hob_sqb (show n < 14 by omega)
  rw [blt6 (show 3 ≤ n by omega), Bool.false_or] at h
  have h := of_decide_eq_true (all_at (f := fun k : Nat => decide (Fit (hob 0 0 n) (sqb 0 0 (k + 1 : Nat)) (-1) 1)) h (show m < n - 2 by omega))
  rw [sqb_at, hob_at x y n]
  exact fit_move (few_sqb (m := 200) (by omega) (by omega) (by omega)).2 (few_sqb (m := 200) (by omega) (by omega) (by omega)).1 (by omega) (by omega) h
theorem fit_rby (h1 : 6 ≤ r) (h2 : r ≤ 15) (d1 : 0 ≤ d) (d2 : d ≤ 2) (hx : -60 ≤ x ∧ x ≤ 60) (hy : -60 ≤ y ∧ y ≤ 60) : Fit (sqb x y r) (sqb (x + r + 3 + d) y 2) (-1) (-1) := by
  obtain ⟨n, rfl⟩ : ∃ n : Nat, r = (n : Int) := ⟨r.toNat, by omega⟩
  obtain ⟨m, rfl⟩ : ∃ m : Nat, d = (m : Int) := ⟨d.toNat, by omega⟩
  have h := all_at (f := fun r : Nat => Nat.blt r 6 || (List.range 3).all fun d : Nat => decide (Fit (sqb 0 0 r) (sqb (r + 3 + d : Nat) 0 2) (-1) (-1))) sqb_by (show n < 16 by omega)
  rw [blt6 (show 6 ≤ n by omega), Bool.false_or] at h
  have h := of_decide_eq_true (all_at (f := fun d : Nat => decide (Fit (sqb 0 0 n) (sqb (n + 3 + d : Nat) 0 2) (-1) (-1))) h (show m < 3 by omega))
  rw [show x + (n : Int) + 3 + (m : Int) = x + ((n + 3 + m : Nat) : Int) by omega, sqb_move, sqb_at x y n]
  exact fit_move (few_sqb (m := 200) (by omega) (by omega) (by omega)).1 (few_sqb (m := 200) (by omega) (by omega) (by omega)).1 (by omega) (by omega) h
end
theorem sqb_area {x y r : Int} (h1 : 1 ≤ r) (h2 : r ≤ 20) (hx : -40 ≤ x - r ∧ x + r ≤ 40) (hy : -40 ≤ y - r ∧ y + r ≤ 40) : twF (sqb x y r) 1 0 = -(8 * (r * r)) ∧ twF (hob x y r) 1 0 = 8 * (r * r) := by
  have f := few_sqb (x := x) (y := y) (r := r) (m := 40) (by omega) (by omega) (by omega)
  constructor
  · rw [(twF_area f.1 (by simp [sqb])).1]
    unfold areaN
    simp only [sqb, List.length_cons, List.length_nil, sumN, trE, trp, cA, cB, List.getD_cons_zero, List.getD_cons_succ, Nat.zero_add, Nat.reduceAdd, Nat.reduceMod]
    rw [lim_id (by omega) (by omega), lim_id (by omega) (by omega), lim_id (by omega) (by omega), lim_id (by omega) (by omega)]
    grind
  · rw [(twF_area f.2 (by simp [hob])).1]
    unfold areaN
    simp only [hob, List.length_cons, List.length_nil, sumN, trE, trp, cA, cB, List.getD_cons_zero, List.getD_cons_succ, Nat.zero_add, Nat.reduceAdd, Nat.reduceMod]
    rw [lim_id (by omega) (by omega), lim_id (by omega) (by omega), lim_id (by omega) (by omega), lim_id (by omega) (by omega)]
    grind
theorem sqb_least {x y r : Int} (h1 : 1 ≤ r) : Least (sqb x y r) 3 ∧ Least (hob x y r) 3 := by
  have b : ∀ a c : Int × Int, befP a c = false ↔ ¬ (a.1 < c.1 ∨ (a.1 = c.1 ∧ a.2 < c.2)) := fun a c => by rw [← befP_iff]; simp
  constructor
  · intro j hj
    have hj' : j < 4 := hj
    rw [b]
    rcases (show j = 0 ∨ j = 1 ∨ j = 2 ∨ j = 3 by omega) with rfl | rfl | rfl | rfl <;> simp only [sqb, List.getD_cons_zero, List.getD_cons_succ] <;> omega
  · intro j hj
    have hj' : j < 4 := hj
    rw [b]
    rcases (show j = 0 ∨ j = 1 ∨ j = 2 ∨ j = 3 by omega) with rfl | rfl | rfl | rfl <;> simp only [hob, List.getD_cons_zero, List.getD_cons_succ] <;> omega
theorem sqb_norm {x y r : Int} (h1 : 1 ≤ r) (h2 : r ≤ 20) (hx : -40 ≤ x - r ∧ x + r ≤ 40) (hy : -40 ≤ y - r ∧ y + r ≤ 40) : nrmL (sqb x y r) 3 = sqr x y r ∧ nrmL (hob x y r) 3 = sqr x y r := by
  have a := sqb_area h1 h2 hx hy
  have p : 1 ≤ r * r := by have := Int.mul_le_mul h1 h1 (by omega) (by omega); omega
  constructor
  · rw [nrm_rev (q := 0) (by omega) (by simp [sqb])]
    simp [rotL, sqb, sqr]
  · rw [nrm_pl (by omega)]
    simp [rotL, hob, sqr]
theorem area_pos2 {r k : Int} (h1 : 1 ≤ k) (h2 : k ≤ r - 2) : 0 < 8 * (r * r) - 8 * (k * k) := by
  have h3 : (k + 2) * (k + 2) ≤ r * r := Int.mul_le_mul (by omega) (by omega) (by omega) (by omega)
  have h4 : (k + 2) * (k + 2) = k * k + 4 * k + 4 := by grind
  omega
theorem sq_pos {r : Int} (h1 : 1 ≤ r) : 1 ≤ r * r := by have := Int.mul_le_mul h1 h1 (by omega) (by omega); omega
theorem mx_pp {a : Int} (h : 0 ≤ a) : mx a (0 - a) = a := by unfold mx; split <;> omega
theorem mx_nn {a : Int} (h : 0 ≤ a) : mx (-a) (0 - -a) = a := by unfold mx; split <;> omega
theorem pc_m {a b a' b' : Int} (h : a < a') : pcmp a b a' b' = -1 := by rw [pcmp_form, if_pos h]
end Go.Proofs.Ytndkhgfecnbmnaa.Am.Sp

namespace Go.Proofs.Ytndkhgfecnbmnaa.Am
open Go Go.Proofs
set_option maxRecDepth 100000
set_option maxHeartbeats 4000000
set_option linter.unusedVariables false
set_option linter.unusedSimpArgs false
theorem acheck_q3 (R1 R2 R3 : List (Int × Int)) (zR1 : 1 ≤ R1.length ∧ R1.length ≤ 200) (fR1 : Sp.Few 1000 R1) (zR2 : 1 ≤ R2.length ∧ R2.length ≤ 200) (fR2 : Sp.Few 1000 R2) (zR3 : 1 ≤ R3.length ∧ R3.length ≤ 200) (fR3 : Sp.Few 1000 R3) (cR1 : Sp.chkF R1 = 0) (cR2 : Sp.chkF R2 = 0) (cR3 : Sp.chkF R3 = 0) (F21 : Sp.Fit R2 R1 (-1) 1) (F31 : Sp.Fit R3 R1 (-1) 1) (F32 : Sp.Fit R3 R2 (-1) 1) :
    AC Try.prog 18 4 ([sV 0 3]) [(0, ⟨[sV 1 R1.length, sV 2 R2.length, sV 3 R3.length], 30, true, 1⟩), (1, (pB R1)), (2, (pB R2)), (3, (pB R3))] (.int .i64 0) [(0, ⟨[sV 1 R1.length, sV 2 R2.length, sV 3 R3.length], 30, true, 1⟩), (1, (pB R1)), (2, (pB R2)), (3, (pB R3))] := by
  refine ac_in Try.func18 (fun w0 W pin => ?_)
  refine aw_p 3 (
    .a 1 4 <| .nil _ _) ?_
  refine aw_sq 6 7 ?_
  refine aw_p 13 (
    .a 3 4 <| .nil _ _) ?_
  refine aw_fl 27 ?_
  refine aw_sk ?_
  refine then_normal ?_
  refine aw_sq 14 15 ?_
  refine aw_p 29 (
    .a 3 4 <| .nil _ _) ?_
  refine aw_bl 0 59 ?_
  refine aw_lp 119 ?_
  refine al_round ?_
  refine aw_p 239 (
    .a 1 4 <| .nil _ _) ?_
  refine aw_sq 478 479 ?_
  refine aw_tr 956 ?_
  refine aw_sk ?_
  refine then_normal ?_
  refine aw_sq 958 959 ?_
  refine aw_bl 1 1917 ?_
  refine aw_p 3835 (
    .a 3 4 <| .nil _ _) ?_
  refine aw_p 7671 (
    .a 1 4 <| .p (cS (m := 1) (args0 := [sV 0 R1.length]) (pre0 := [(0, (pB R1))]) (v0 := .int .i64 0) #[.tmp 19] #[30] [sV 1 R1.length] [1] [(1, (pB R1))] (.int .i64 0) ((by have h := chkn_own R1 R1.length rfl (by omega); rw [cR1] at h; exact h)) (.cons rS .nil) ⟨rfl, bP, trivial⟩ rF) <| .a 1 4 <| .nil _ _) ?_
  refine aw_p 15343 (
    .a 2 4 <| .nil _ _) ?_
  refine aw_fl 30687 ?_
  refine aw_sk ?_
  refine block_normal ?_
  refine then_normal ?_
  refine aw_p1 (
    .a 2 4 <| .nil _ _) ?_
  refine then_normal ?_
  refine al_round ?_
  refine aw_p 239 (
    .a 1 4 <| .nil _ _) ?_
  refine aw_sq 478 479 ?_
  refine aw_tr 956 ?_
  refine aw_sk ?_
  refine then_normal ?_
  refine aw_sq 958 959 ?_
  refine aw_bl 1 1917 ?_
  refine aw_p 3835 (
    .a 3 4 <| .nil _ _) ?_
  refine aw_p 7671 (
    .a 1 4 <| .p (cS (m := 1) (args0 := [sV 0 R2.length]) (pre0 := [(0, (pB R2))]) (v0 := .int .i64 0) #[.tmp 19] #[30] [sV 2 R2.length] [2] [(2, (pB R2))] (.int .i64 0) ((by have h := chkn_own R2 R2.length rfl (by omega); rw [cR2] at h; exact h)) (.cons rS .nil) ⟨rfl, bP, trivial⟩ rF) <| .a 1 4 <| .nil _ _) ?_
  refine aw_p 15343 (
    .a 2 4 <| .nil _ _) ?_
  refine aw_fl 30687 ?_
  refine aw_sk ?_
  refine block_normal ?_
  refine then_normal ?_
  refine aw_p1 (
    .a 2 4 <| .nil _ _) ?_
  refine then_normal ?_
  refine al_round ?_
  refine aw_p 239 (
    .a 1 4 <| .nil _ _) ?_
  refine aw_sq 478 479 ?_
  refine aw_tr 956 ?_
  refine aw_sk ?_
  refine then_normal ?_
  refine aw_sq 958 959 ?_
  refine aw_bl 1 1917 ?_
  refine aw_p 3835 (
    .a 3 4 <| .nil _ _) ?_
  refine aw_p 7671 (
    .a 1 4 <| .p (cS (m := 1) (args0 := [sV 0 R3.length]) (pre0 := [(0, (pB R3))]) (v0 := .int .i64 0) #[.tmp 19] #[30] [sV 3 R3.length] [3] [(3, (pB R3))] (.int .i64 0) ((by have h := chkn_own R3 R3.length rfl (by omega); rw [cR3] at h; exact h)) (.cons rS .nil) ⟨rfl, bP, trivial⟩ rF) <| .a 1 4 <| .nil _ _) ?_
  refine aw_p 15343 (
    .a 2 4 <| .nil _ _) ?_
  refine aw_fl 30687 ?_
  refine aw_sk ?_
  refine block_normal ?_
  refine then_normal ?_
  refine aw_p1 (
    .a 2 4 <| .nil _ _) ?_
  refine then_normal ?_
  refine al_round ?_
  refine aw_p 239 (
    .a 1 4 <| .nil _ _) ?_
  refine aw_sq 478 479 ?_
  refine aw_fl 957 ?_
  refine aw_ex 0 ?_
  refine then_exit ?_
  refine then_exit ?_
  refine block_exit ?_
  refine then_normal ?_
  refine aw_sq 30 31 ?_
  refine aw_p 61 (
    .a 3 4 <| .nil _ _) ?_
  refine aw_bl 2 123 ?_
  refine aw_lp 247 ?_
  refine al_round ?_
  refine aw_p 495 (
    .a 1 4 <| .nil _ _) ?_
  refine aw_sq 990 991 ?_
  refine aw_tr 1980 ?_
  refine aw_sk ?_
  refine then_normal ?_
  refine aw_sq 1982 1983 ?_
  refine aw_bl 3 3965 ?_
  refine aw_p 7931 (
    .a 5 4 <| .nil _ _) ?_
  refine aw_p 15863 (
    .a 2 4 <|
    .p (does_val (v' := sV 0 0) (does_slice (t := 25) (x := .tmp 32) (lo := none) (hi := some (.tmp 33)) (k := 0) (off := 0) (n := 3) (c := 0) (z := 1) (l := 0) (h := 0) (m := 0) (b := ⟨[sV 1 R1.length, sV 2 R2.length, sV 3 R3.length], 30, true, 1⟩) (by kernel_rfl) (by kernel_rfl) (by kernel_rfl) (by kernel_rfl) (by kernel_rfl) (by kernel_rfl) (by kernel_rfl) (by kernel_rfl) (by decide) (by decide) (by decide) (by decide)) (by kernel_rfl)) <|
    .a 2 4 <| .nil _ _) ?_
  refine aw_bl 4 31727 ?_
  refine aw_lp 63455 ?_
  refine al_round ?_
  refine aw_p 126911 (
    .a 1 4 <| .nil _ _) ?_
  refine aw_sq 253822 253823 ?_
  refine aw_fl 507645 ?_
  refine aw_ex 4 ?_
  refine then_exit ?_
  refine then_exit ?_
  refine block_exit ?_
  refine block_normal ?_
  refine then_normal ?_
  refine aw_p1 (
    .a 2 4 <| .nil _ _) ?_
  refine then_normal ?_
  refine al_round ?_
  refine aw_p 495 (
    .a 1 4 <| .nil _ _) ?_
  refine aw_sq 990 991 ?_
  refine aw_tr 1980 ?_
  refine aw_sk ?_
  refine then_normal ?_
  refine aw_sq 1982 1983 ?_
  refine aw_bl 3 3965 ?_
  refine aw_p 7931 (
    .a 5 4 <| .nil _ _) ?_
  refine aw_p 15863 (
    .a 2 4 <|
    .p (does_val (v' := sV 0 1) (does_slice (t := 25) (x := .tmp 32) (lo := none) (hi := some (.tmp 33)) (k := 0) (off := 0) (n := 3) (c := 0) (z := 1) (l := 0) (h := 1) (m := 1) (b := ⟨[sV 1 R1.length, sV 2 R2.length, sV 3 R3.length], 30, true, 1⟩) (by kernel_rfl) (by kernel_rfl) (by kernel_rfl) (by kernel_rfl) (by kernel_rfl) (by kernel_rfl) (by kernel_rfl) (by kernel_rfl) (by decide) (by decide) (by decide) (by decide)) (by kernel_rfl)) <|
    .a 2 4 <| .nil _ _) ?_
  refine aw_bl 4 31727 ?_
  refine aw_lp 63455 ?_
  refine al_round ?_
  refine aw_p 126911 (
    .a 1 4 <| .nil _ _) ?_
  refine aw_sq 253822 253823 ?_
  refine aw_tr 507644 ?_
  refine aw_sk ?_
  refine then_normal ?_
  refine aw_sq 507646 507647 ?_
  refine aw_bl 5 1015293 ?_
  refine aw_p 2030587 (
    .a 3 4 <| .nil _ _) ?_
  refine aw_p 4061175 (
    .a 2 4 <| .p (cS #[.tmp 40, .tmp 41] #[30, 30] [sV 2 R2.length, sV 1 R1.length] [2, 1] [(2, (pB R2)), (1, (pB R1))] (.bool true) (fits_ok R2 R1 (-1) 1 zR2 fR2 zR1 fR1 F21) (.cons rS (.cons rS .nil)) ⟨rfl, bP, rfl, bP, trivial⟩ rF) <| .a 1 4 <| .nil _ _) ?_
  refine aw_fl 8122351 ?_
  refine aw_sk ?_
  refine block_normal ?_
  refine then_normal ?_
  refine aw_p1 (
    .a 2 4 <| .nil _ _) ?_
  refine then_normal ?_
  refine al_round ?_
  refine aw_p 126911 (
    .a 1 4 <| .nil _ _) ?_
  refine aw_sq 253822 253823 ?_
  refine aw_fl 507645 ?_
  refine aw_ex 4 ?_
  refine then_exit ?_
  refine then_exit ?_
  refine block_exit ?_
  refine block_normal ?_
  refine then_normal ?_
  refine aw_p1 (
    .a 2 4 <| .nil _ _) ?_
  refine then_normal ?_
  refine al_round ?_
  refine aw_p 495 (
    .a 1 4 <| .nil _ _) ?_
  refine aw_sq 990 991 ?_
  refine aw_tr 1980 ?_
  refine aw_sk ?_
  refine then_normal ?_
  refine aw_sq 1982 1983 ?_
  refine aw_bl 3 3965 ?_
  refine aw_p 7931 (
    .a 5 4 <| .nil _ _) ?_
  refine aw_p 15863 (
    .a 2 4 <|
    .p (does_val (v' := sV 0 2) (does_slice (t := 25) (x := .tmp 32) (lo := none) (hi := some (.tmp 33)) (k := 0) (off := 0) (n := 3) (c := 0) (z := 1) (l := 0) (h := 2) (m := 2) (b := ⟨[sV 1 R1.length, sV 2 R2.length, sV 3 R3.length], 30, true, 1⟩) (by kernel_rfl) (by kernel_rfl) (by kernel_rfl) (by kernel_rfl) (by kernel_rfl) (by kernel_rfl) (by kernel_rfl) (by kernel_rfl) (by decide) (by decide) (by decide) (by decide)) (by kernel_rfl)) <|
    .a 2 4 <| .nil _ _) ?_
  refine aw_bl 4 31727 ?_
  refine aw_lp 63455 ?_
  refine al_round ?_
  refine aw_p 126911 (
    .a 1 4 <| .nil _ _) ?_
  refine aw_sq 253822 253823 ?_
  refine aw_tr 507644 ?_
  refine aw_sk ?_
  refine then_normal ?_
  refine aw_sq 507646 507647 ?_
  refine aw_bl 5 1015293 ?_
  refine aw_p 2030587 (
    .a 3 4 <| .nil _ _) ?_
  refine aw_p 4061175 (
    .a 2 4 <| .p (cS #[.tmp 40, .tmp 41] #[30, 30] [sV 3 R3.length, sV 1 R1.length] [3, 1] [(3, (pB R3)), (1, (pB R1))] (.bool true) (fits_ok R3 R1 (-1) 1 zR3 fR3 zR1 fR1 F31) (.cons rS (.cons rS .nil)) ⟨rfl, bP, rfl, bP, trivial⟩ rF) <| .a 1 4 <| .nil _ _) ?_
  refine aw_fl 8122351 ?_
  refine aw_sk ?_
  refine block_normal ?_
  refine then_normal ?_
  refine aw_p1 (
    .a 2 4 <| .nil _ _) ?_
  refine then_normal ?_
  refine al_round ?_
  refine aw_p 126911 (
    .a 1 4 <| .nil _ _) ?_
  refine aw_sq 253822 253823 ?_
  refine aw_tr 507644 ?_
  refine aw_sk ?_
  refine then_normal ?_
  refine aw_sq 507646 507647 ?_
  refine aw_bl 5 1015293 ?_
  refine aw_p 2030587 (
    .a 3 4 <| .nil _ _) ?_
  refine aw_p 4061175 (
    .a 2 4 <| .p (cS #[.tmp 40, .tmp 41] #[30, 30] [sV 3 R3.length, sV 2 R2.length] [3, 2] [(3, (pB R3)), (2, (pB R2))] (.bool true) (fits_ok R3 R2 (-1) 1 zR3 fR3 zR2 fR2 F32) (.cons rS (.cons rS .nil)) ⟨rfl, bP, rfl, bP, trivial⟩ rF) <| .a 1 4 <| .nil _ _) ?_
  refine aw_fl 8122351 ?_
  refine aw_sk ?_
  refine block_normal ?_
  refine then_normal ?_
  refine aw_p1 (
    .a 2 4 <| .nil _ _) ?_
  refine then_normal ?_
  refine al_round ?_
  refine aw_p 126911 (
    .a 1 4 <| .nil _ _) ?_
  refine aw_sq 253822 253823 ?_
  refine aw_fl 507645 ?_
  refine aw_ex 4 ?_
  refine then_exit ?_
  refine then_exit ?_
  refine block_exit ?_
  refine block_normal ?_
  refine then_normal ?_
  refine aw_p1 (
    .a 2 4 <| .nil _ _) ?_
  refine then_normal ?_
  refine al_round ?_
  refine aw_p 495 (
    .a 1 4 <| .nil _ _) ?_
  refine aw_sq 990 991 ?_
  refine aw_fl 1981 ?_
  refine aw_ex 2 ?_
  refine then_exit ?_
  refine then_exit ?_
  refine block_exit ?_
  refine then_normal ?_
  refine aw_p 63 (
    .a 1 4 <| .nil _ _) ?_
  refine aw_rt ?_
  exact en_ret [.int .i64 0] (by kernel_rfl)
theorem adepth_q3 (R1 R2 R3 : List (Int × Int)) (zR1 : 1 ≤ R1.length ∧ R1.length ≤ 200) (fR1 : Sp.Few 1000 R1) (zR2 : 1 ≤ R2.length ∧ R2.length ≤ 200) (fR2 : Sp.Few 1000 R2) (zR3 : 1 ≤ R3.length ∧ R3.length ≤ 200) (fR3 : Sp.Few 1000 R3) (cR1 : Sp.chkF R1 = 0) (cR2 : Sp.chkF R2 = 0) (cR3 : Sp.chkF R3 = 0) (F21 : Sp.Fit R2 R1 (-1) 1) (F31 : Sp.Fit R3 R1 (-1) 1) (F32 : Sp.Fit R3 R2 (-1) 1) :
    AC Try.prog 13 4 ([sV 0 3]) [(0, ⟨[sV 1 R1.length, sV 2 R2.length, sV 3 R3.length], 30, true, 1⟩), (1, (pB R1)), (2, (pB R2)), (3, (pB R3))] (sV 4 3) [(0, ⟨[sV 1 R1.length, sV 2 R2.length, sV 3 R3.length], 30, true, 1⟩), (1, (pB R1)), (2, (pB R2)), (3, (pB R3)), (4, ⟨[.int .i64 2, .int .i64 1, .int .i64 0], 3, true, 1⟩)] := by
  refine ac_in Try.func13 (fun w0 W pin => ?_)
  refine aw_p 3 (
    .a 1 4 <| .nil _ _) ?_
  refine aw_sq 6 7 ?_
  refine aw_p 13 (
    .a 1 4 <|
    .p (cS #[.tmp 8] #[25] [sV 0 3] [0, 1, 2, 3] [(0, ⟨[sV 1 R1.length, sV 2 R2.length, sV 3 R3.length], 30, true, 1⟩), (1, (pB R1)), (2, (pB R2)), (3, (pB R3))] (.int .i64 0) (acheck_q3 R1 R2 R3 zR1 fR1 zR2 fR2 zR3 fR3 cR1 cR2 cR3 F21 F31 F32) (.cons rS .nil) ⟨rfl, ⟨rfl, rfl, rfl, (.cons rS (.cons rS (.cons rS .nil)))⟩, rfl, bP, rfl, bP, rfl, bP, trivial⟩ rF) <|
    .a 1 4 <| .nil _ _) ?_
  refine aw_fl 27 ?_
  refine aw_sk ?_
  refine then_normal ?_
  refine aw_p 15 (
    .a 2 4 <| .p (does_mk (kl := .i64) (kc := .i64) (n' := 3) (c' := 3) 4 3 1 8 3 3 (.int .i64 0) [.int .i64 0, .int .i64 0, .int .i64 0] (by kernel_rfl) (by kernel_rfl) (by kernel_rfl) (by kernel_rfl) (by decide) (by decide) (by decide) (by decide) (by decide)) <| .a 1 5 <| .nil _ _) ?_
  refine aw_sq 30 31 ?_
  refine aw_p 61 (
    .a 3 5 <| .nil _ _) ?_
  refine aw_bl 0 123 ?_
  refine aw_lp 247 ?_
  refine al_round ?_
  refine aw_p 495 (
    .a 1 5 <| .nil _ _) ?_
  refine aw_sq 990 991 ?_
  refine aw_tr 1980 ?_
  refine aw_sk ?_
  refine then_normal ?_
  refine aw_sq 1982 1983 ?_
  refine aw_bl 1 3965 ?_
  refine aw_p 7931 (
    .a 5 5 <| .nil _ _) ?_
  refine aw_p 15863 (
    .a 3 5 <| .nil _ _) ?_
  refine aw_bl 2 31727 ?_
  refine aw_lp 63455 ?_
  refine al_round ?_
  refine aw_p 126911 (
    .a 1 5 <| .nil _ _) ?_
  refine aw_sq 253822 253823 ?_
  refine aw_tr 507644 ?_
  refine aw_sk ?_
  refine then_normal ?_
  refine aw_sq 507646 507647 ?_
  refine aw_bl 3 1015293 ?_
  refine aw_p 2030587 (
    .a 5 5 <| .nil _ _) ?_
  refine aw_p 4061175 (
    .a 9 5 <| .nil _ _) ?_
  refine aw_fl 8122351 ?_
  refine aw_sk ?_
  refine block_normal ?_
  refine then_normal ?_
  refine aw_p1 (
    .a 2 5 <| .nil _ _) ?_
  refine then_normal ?_
  refine al_round ?_
  refine aw_p 126911 (
    .a 1 5 <| .nil _ _) ?_
  refine aw_sq 253822 253823 ?_
  refine aw_tr 507644 ?_
  refine aw_sk ?_
  refine then_normal ?_
  refine aw_sq 507646 507647 ?_
  refine aw_bl 3 1015293 ?_
  refine aw_p 2030587 (
    .a 5 5 <| .nil _ _) ?_
  refine aw_p 4061175 (
    .a 6 5 <|
    .p (cS (m := 2) (args0 := [sV 0 R1.length, .int .i64 0, sV 1 R2.length]) (pre0 := [(0, (pB R1)), (1, (pB R2))]) (v0 := .int .i64 1) #[.tmp 32, .const (.int .i64 0), .tmp 33] #[30, 3, 30] [sV 1 R1.length, .int .i64 0, sV 2 R2.length] [1, 2] [(1, (pB R1)), (2, (pB R2))] (.int .i64 1) ((by have h := side_ok R1 R2 zR1 fR1 zR2 fR2 0 (by omega); rw [Sp.side_at F21.2.2 (by omega)] at h; exact h)) (.cons rS (.cons rF (.cons rS .nil))) ⟨rfl, bP, rfl, bP, trivial⟩ rF) <|
    .a 2 5 <| .nil _ _) ?_
  refine aw_tr 8122350 ?_
  refine aw_p1 (
    .a 7 5 <| .nil _ _) ?_
  refine block_normal ?_
  refine then_normal ?_
  refine aw_p1 (
    .a 2 5 <| .nil _ _) ?_
  refine then_normal ?_
  refine al_round ?_
  refine aw_p 126911 (
    .a 1 5 <| .nil _ _) ?_
  refine aw_sq 253822 253823 ?_
  refine aw_tr 507644 ?_
  refine aw_sk ?_
  refine then_normal ?_
  refine aw_sq 507646 507647 ?_
  refine aw_bl 3 1015293 ?_
  refine aw_p 2030587 (
    .a 5 5 <| .nil _ _) ?_
  refine aw_p 4061175 (
    .a 6 5 <|
    .p (cS (m := 2) (args0 := [sV 0 R1.length, .int .i64 0, sV 1 R3.length]) (pre0 := [(0, (pB R1)), (1, (pB R3))]) (v0 := .int .i64 1) #[.tmp 32, .const (.int .i64 0), .tmp 33] #[30, 3, 30] [sV 1 R1.length, .int .i64 0, sV 3 R3.length] [1, 3] [(1, (pB R1)), (3, (pB R3))] (.int .i64 1) ((by have h := side_ok R1 R3 zR1 fR1 zR3 fR3 0 (by omega); rw [Sp.side_at F31.2.2 (by omega)] at h; exact h)) (.cons rS (.cons rF (.cons rS .nil))) ⟨rfl, bP, rfl, bP, trivial⟩ rF) <|
    .a 2 5 <| .nil _ _) ?_
  refine aw_tr 8122350 ?_
  refine aw_p1 (
    .a 7 5 <| .nil _ _) ?_
  refine block_normal ?_
  refine then_normal ?_
  refine aw_p1 (
    .a 2 5 <| .nil _ _) ?_
  refine then_normal ?_
  refine al_round ?_
  refine aw_p 126911 (
    .a 1 5 <| .nil _ _) ?_
  refine aw_sq 253822 253823 ?_
  refine aw_fl 507645 ?_
  refine aw_ex 2 ?_
  refine then_exit ?_
  refine then_exit ?_
  refine block_exit ?_
  refine block_normal ?_
  refine then_normal ?_
  refine aw_p1 (
    .a 2 5 <| .nil _ _) ?_
  refine then_normal ?_
  refine al_round ?_
  refine aw_p 495 (
    .a 1 5 <| .nil _ _) ?_
  refine aw_sq 990 991 ?_
  refine aw_tr 1980 ?_
  refine aw_sk ?_
  refine then_normal ?_
  refine aw_sq 1982 1983 ?_
  refine aw_bl 1 3965 ?_
  refine aw_p 7931 (
    .a 5 5 <| .nil _ _) ?_
  refine aw_p 15863 (
    .a 3 5 <| .nil _ _) ?_
  refine aw_bl 2 31727 ?_
  refine aw_lp 63455 ?_
  refine al_round ?_
  refine aw_p 126911 (
    .a 1 5 <| .nil _ _) ?_
  refine aw_sq 253822 253823 ?_
  refine aw_tr 507644 ?_
  refine aw_sk ?_
  refine then_normal ?_
  refine aw_sq 507646 507647 ?_
  refine aw_bl 3 1015293 ?_
  refine aw_p 2030587 (
    .a 5 5 <| .nil _ _) ?_
  refine aw_p 4061175 (
    .a 6 5 <|
    .p (cS (m := 2) (args0 := [sV 0 R2.length, .int .i64 0, sV 1 R1.length]) (pre0 := [(0, (pB R2)), (1, (pB R1))]) (v0 := .int .i64 (-1)) #[.tmp 32, .const (.int .i64 0), .tmp 33] #[30, 3, 30] [sV 2 R2.length, .int .i64 0, sV 1 R1.length] [2, 1] [(2, (pB R2)), (1, (pB R1))] (.int .i64 (-1)) ((by have h := side_ok R2 R1 zR2 fR2 zR1 fR1 0 (by omega); rw [Sp.side_at F21.2.1 (by omega)] at h; exact h)) (.cons rS (.cons rF (.cons rS .nil))) ⟨rfl, bP, rfl, bP, trivial⟩ rF) <|
    .a 2 5 <| .nil _ _) ?_
  refine aw_fl 8122351 ?_
  refine aw_sk ?_
  refine block_normal ?_
  refine then_normal ?_
  refine aw_p1 (
    .a 2 5 <| .nil _ _) ?_
  refine then_normal ?_
  refine al_round ?_
  refine aw_p 126911 (
    .a 1 5 <| .nil _ _) ?_
  refine aw_sq 253822 253823 ?_
  refine aw_tr 507644 ?_
  refine aw_sk ?_
  refine then_normal ?_
  refine aw_sq 507646 507647 ?_
  refine aw_bl 3 1015293 ?_
  refine aw_p 2030587 (
    .a 5 5 <| .nil _ _) ?_
  refine aw_p 4061175 (
    .a 9 5 <| .nil _ _) ?_
  refine aw_fl 8122351 ?_
  refine aw_sk ?_
  refine block_normal ?_
  refine then_normal ?_
  refine aw_p1 (
    .a 2 5 <| .nil _ _) ?_
  refine then_normal ?_
  refine al_round ?_
  refine aw_p 126911 (
    .a 1 5 <| .nil _ _) ?_
  refine aw_sq 253822 253823 ?_
  refine aw_tr 507644 ?_
  refine aw_sk ?_
  refine then_normal ?_
  refine aw_sq 507646 507647 ?_
  refine aw_bl 3 1015293 ?_
  refine aw_p 2030587 (
    .a 5 5 <| .nil _ _) ?_
  refine aw_p 4061175 (
    .a 6 5 <|
    .p (cS (m := 2) (args0 := [sV 0 R2.length, .int .i64 0, sV 1 R3.length]) (pre0 := [(0, (pB R2)), (1, (pB R3))]) (v0 := .int .i64 1) #[.tmp 32, .const (.int .i64 0), .tmp 33] #[30, 3, 30] [sV 2 R2.length, .int .i64 0, sV 3 R3.length] [2, 3] [(2, (pB R2)), (3, (pB R3))] (.int .i64 1) ((by have h := side_ok R2 R3 zR2 fR2 zR3 fR3 0 (by omega); rw [Sp.side_at F32.2.2 (by omega)] at h; exact h)) (.cons rS (.cons rF (.cons rS .nil))) ⟨rfl, bP, rfl, bP, trivial⟩ rF) <|
    .a 2 5 <| .nil _ _) ?_
  refine aw_tr 8122350 ?_
  refine aw_p1 (
    .a 7 5 <| .nil _ _) ?_
  refine block_normal ?_
  refine then_normal ?_
  refine aw_p1 (
    .a 2 5 <| .nil _ _) ?_
  refine then_normal ?_
  refine al_round ?_
  refine aw_p 126911 (
    .a 1 5 <| .nil _ _) ?_
  refine aw_sq 253822 253823 ?_
  refine aw_fl 507645 ?_
  refine aw_ex 2 ?_
  refine then_exit ?_
  refine then_exit ?_
  refine block_exit ?_
  refine block_normal ?_
  refine then_normal ?_
  refine aw_p1 (
    .a 2 5 <| .nil _ _) ?_
  refine then_normal ?_
  refine al_round ?_
  refine aw_p 495 (
    .a 1 5 <| .nil _ _) ?_
  refine aw_sq 990 991 ?_
  refine aw_tr 1980 ?_
  refine aw_sk ?_
  refine then_normal ?_
  refine aw_sq 1982 1983 ?_
  refine aw_bl 1 3965 ?_
  refine aw_p 7931 (
    .a 5 5 <| .nil _ _) ?_
  refine aw_p 15863 (
    .a 3 5 <| .nil _ _) ?_
  refine aw_bl 2 31727 ?_
  refine aw_lp 63455 ?_
  refine al_round ?_
  refine aw_p 126911 (
    .a 1 5 <| .nil _ _) ?_
  refine aw_sq 253822 253823 ?_
  refine aw_tr 507644 ?_
  refine aw_sk ?_
  refine then_normal ?_
  refine aw_sq 507646 507647 ?_
  refine aw_bl 3 1015293 ?_
  refine aw_p 2030587 (
    .a 5 5 <| .nil _ _) ?_
  refine aw_p 4061175 (
    .a 6 5 <|
    .p (cS (m := 2) (args0 := [sV 0 R3.length, .int .i64 0, sV 1 R1.length]) (pre0 := [(0, (pB R3)), (1, (pB R1))]) (v0 := .int .i64 (-1)) #[.tmp 32, .const (.int .i64 0), .tmp 33] #[30, 3, 30] [sV 3 R3.length, .int .i64 0, sV 1 R1.length] [3, 1] [(3, (pB R3)), (1, (pB R1))] (.int .i64 (-1)) ((by have h := side_ok R3 R1 zR3 fR3 zR1 fR1 0 (by omega); rw [Sp.side_at F31.2.1 (by omega)] at h; exact h)) (.cons rS (.cons rF (.cons rS .nil))) ⟨rfl, bP, rfl, bP, trivial⟩ rF) <|
    .a 2 5 <| .nil _ _) ?_
  refine aw_fl 8122351 ?_
  refine aw_sk ?_
  refine block_normal ?_
  refine then_normal ?_
  refine aw_p1 (
    .a 2 5 <| .nil _ _) ?_
  refine then_normal ?_
  refine al_round ?_
  refine aw_p 126911 (
    .a 1 5 <| .nil _ _) ?_
  refine aw_sq 253822 253823 ?_
  refine aw_tr 507644 ?_
  refine aw_sk ?_
  refine then_normal ?_
  refine aw_sq 507646 507647 ?_
  refine aw_bl 3 1015293 ?_
  refine aw_p 2030587 (
    .a 5 5 <| .nil _ _) ?_
  refine aw_p 4061175 (
    .a 6 5 <|
    .p (cS (m := 2) (args0 := [sV 0 R3.length, .int .i64 0, sV 1 R2.length]) (pre0 := [(0, (pB R3)), (1, (pB R2))]) (v0 := .int .i64 (-1)) #[.tmp 32, .const (.int .i64 0), .tmp 33] #[30, 3, 30] [sV 3 R3.length, .int .i64 0, sV 2 R2.length] [3, 2] [(3, (pB R3)), (2, (pB R2))] (.int .i64 (-1)) ((by have h := side_ok R3 R2 zR3 fR3 zR2 fR2 0 (by omega); rw [Sp.side_at F32.2.1 (by omega)] at h; exact h)) (.cons rS (.cons rF (.cons rS .nil))) ⟨rfl, bP, rfl, bP, trivial⟩ rF) <|
    .a 2 5 <| .nil _ _) ?_
  refine aw_fl 8122351 ?_
  refine aw_sk ?_
  refine block_normal ?_
  refine then_normal ?_
  refine aw_p1 (
    .a 2 5 <| .nil _ _) ?_
  refine then_normal ?_
  refine al_round ?_
  refine aw_p 126911 (
    .a 1 5 <| .nil _ _) ?_
  refine aw_sq 253822 253823 ?_
  refine aw_tr 507644 ?_
  refine aw_sk ?_
  refine then_normal ?_
  refine aw_sq 507646 507647 ?_
  refine aw_bl 3 1015293 ?_
  refine aw_p 2030587 (
    .a 5 5 <| .nil _ _) ?_
  refine aw_p 4061175 (
    .a 9 5 <| .nil _ _) ?_
  refine aw_fl 8122351 ?_
  refine aw_sk ?_
  refine block_normal ?_
  refine then_normal ?_
  refine aw_p1 (
    .a 2 5 <| .nil _ _) ?_
  refine then_normal ?_
  refine al_round ?_
  refine aw_p 126911 (
    .a 1 5 <| .nil _ _) ?_
  refine aw_sq 253822 253823 ?_
  refine aw_fl 507645 ?_
  refine aw_ex 2 ?_
  refine then_exit ?_
  refine then_exit ?_
  refine block_exit ?_
  refine block_normal ?_
  refine then_normal ?_
  refine aw_p1 (
    .a 2 5 <| .nil _ _) ?_
  refine then_normal ?_
  refine al_round ?_
  refine aw_p 495 (
    .a 1 5 <| .nil _ _) ?_
  refine aw_sq 990 991 ?_
  refine aw_fl 1981 ?_
  refine aw_ex 0 ?_
  refine then_exit ?_
  refine then_exit ?_
  refine block_exit ?_
  refine then_normal ?_
  refine aw_p 63 (
    .a 2 5 <| .nil _ _) ?_
  refine aw_rt ?_
  exact en_ret [sV 4 3] (by kernel_rfl)
end Go.Proofs.Ytndkhgfecnbmnaa.Am

namespace Go.Proofs.Ytndkhgfecnbmnaa.Am
open Go Go.Proofs
set_option maxRecDepth 100000
set_option maxHeartbeats 4000000
set_option linter.unusedVariables false
set_option linter.unusedSimpArgs false
theorem anormq_n1 (x1 y1 r1 : Int) (s1 : 1 ≤ r1) (u1 : r1 ≤ 20) (v1 : -40 ≤ x1 - r1 ∧ x1 + r1 ≤ 40) (w1 : -40 ≤ y1 - r1 ∧ y1 + r1 ≤ 40) (c1 : Sp.chkF (Sp.sqb x1 y1 r1) = 0)  :
    AC Try.prog 22 2 ([sV 0 1]) [(0, ⟨[sV 1 4], 30, true, 1⟩), (1, (pB (Sp.sqb x1 y1 r1)))] (sV 2 1) [(0, ⟨[sV 1 4], 30, true, 1⟩), (1, (pB (Sp.sqb x1 y1 r1))), (2, ⟨[sV 3 4], 30, true, 1⟩), (3, (pB (Sp.sqr x1 y1 r1)))] := by
  refine ac_in Try.func22 (fun w0 W pin => ?_)
  refine aw_p 3 (
    .a 1 2 <| .nil _ _) ?_
  refine aw_p 7 (
    .a 1 2 <| .nil _ _) ?_
  refine aw_sq 14 15 ?_
  refine aw_p 29 (
    .a 1 2 <|
    .p (cF #[.tmp 7] #[25] [sV 0 1] 1 [0, 1, 2] [(0, ⟨[sV 1 4], 30, true, 1⟩), (1, (pB (Sp.sqb x1 y1 r1)))] [(0, ⟨[sV 1 4], 30, true, 1⟩), (1, (pB (Sp.sqb x1 y1 r1))), (2, ⟨[.int .i64 0], 3, true, 1⟩)] (sV 2 1) (adepth_n1 (Sp.sqb x1 y1 r1) ⟨by simp [Sp.sqr, Sp.hol, Sp.sqb, Sp.hob], by simp [Sp.sqr, Sp.hol, Sp.sqb, Sp.hob]⟩ (Sp.few_sqb (m := 1000) (by omega) (by omega) (by omega)).1 c1) (.cons rS .nil) ⟨rfl, ⟨rfl, rfl, rfl, (.cons rS .nil)⟩, rfl, bP, trivial⟩ ⟨rfl, ⟨rfl, rfl, rfl, (.cons rS .nil)⟩, rfl, bP, rfl, ⟨rfl, rfl, rfl, (.flats (by kernel_rfl))⟩, trivial⟩ rS) <|
    .a 2 3 <| .nil _ _) ?_
  refine aw_bl 0 59 ?_
  refine aw_lp 119 ?_
  refine al_round ?_
  refine aw_p 239 (
    .a 1 3 <| .nil _ _) ?_
  refine aw_sq 478 479 ?_
  refine aw_tr 956 ?_
  refine aw_sk ?_
  refine then_normal ?_
  refine aw_sq 958 959 ?_
  refine aw_bl 1 1917 ?_
  refine aw_p 3835 (
    .a 5 3 <| .nil _ _) ?_
  refine aw_p 7671 (
    .a 4 3 <|
    .p (cF #[.tmp 18] #[30] [sV 1 4] 1 [1, 3] [(1, (pB (Sp.sqb x1 y1 r1)))] [(1, (pB (Sp.sqb x1 y1 r1))), (3, (pB (Sp.sqr x1 y1 r1)))] (sV 3 4) (norm_n (Sp.sqb x1 y1 r1) (Sp.sqr x1 y1 r1) 3 4 (by simp [Sp.sqb, Sp.hob]) (by decide) (by decide) (by decide) (Sp.chk_diff c1).2 (Sp.sqb_least s1).1 (Sp.sqb_norm s1 u1 v1 w1).1) (.cons rS .nil) ⟨rfl, bP, trivial⟩ ⟨rfl, bP, rfl, bP, trivial⟩ rS) <|
    .a 1 4 <| .nil _ _) ?_
  refine aw_sq 15342 15343 ?_
  refine aw_p 30685 (
    .a 3 4 <| .nil _ _) ?_
  refine aw_fl 61371 ?_
  refine aw_sk ?_
  refine then_normal ?_
  refine aw_p1 (
    .a 3 4 <| .p (does_ap 5) <| .a 1 6 <| .nil _ _) ?_
  refine block_normal ?_
  refine then_normal ?_
  refine aw_p1 (
    .a 2 6 <| .nil _ _) ?_
  refine then_normal ?_
  refine al_round ?_
  refine aw_p 239 (
    .a 1 6 <| .nil _ _) ?_
  refine aw_sq 478 479 ?_
  refine aw_fl 957 ?_
  refine aw_ex 0 ?_
  refine then_exit ?_
  refine then_exit ?_
  refine block_exit ?_
  refine then_normal ?_
  refine aw_p 31 (
    .a 1 6 <|
    .p (cS #[.tmp 31, .func 66] #[25, 83] [sV 5 1, .func (.func 66) #[] #[]] [5, 3] [(5, ⟨[sV 3 4], 30, true, 1⟩), (3, (pB (Sp.sqr x1 y1 r1)))] (.tuple #[]) (srtd_1 (Sp.sqr x1 y1 r1) ⟨by simp [Sp.sqr, Sp.hol, Sp.sqb, Sp.hob], by simp [Sp.sqr, Sp.hol, Sp.sqb, Sp.hob]⟩ ) (.cons rS (.cons rF .nil)) ⟨rfl, ⟨rfl, rfl, rfl, (.cons rS .nil)⟩, rfl, bP, trivial⟩ rF) <| .nil _ _) ?_
  refine aw_p 63 (
    .a 2 6 <| .nil _ _) ?_
  refine aw_r [(2, 5)] [(2, sV 5 1)] [(0, ⟨[sV 1 4], 30, true, 1⟩), (1, (pB (Sp.sqb x1 y1 r1))), (5, ⟨[sV 3 4], 30, true, 1⟩), (3, (pB (Sp.sqr x1 y1 r1)))] [(2, sV 2 1)] [(0, ⟨[sV 1 4], 30, true, 1⟩), (1, (pB (Sp.sqb x1 y1 r1))), (2, ⟨[sV 3 4], 30, true, 1⟩), (3, (pB (Sp.sqr x1 y1 r1)))] ?_ ⟨rfl, (rK rfl), trivial⟩ ⟨rfl, ⟨rfl, rfl, rfl, (.cons (rK rfl) .nil)⟩, rfl, ⟨rfl, rfl, rfl, (.flats (flats_pair _))⟩, rfl, ⟨rfl, rfl, rfl, (.cons (rK rfl) .nil)⟩, rfl, ⟨rfl, rfl, rfl, (.flats (flats_pair _))⟩, trivial⟩
  refine aw_rt ?_
  exact en_ret [sV 2 1] (by kernel_rfl)
end Go.Proofs.Ytndkhgfecnbmnaa.Am

namespace Go.Proofs.Ytndkhgfecnbmnaa.Am
open Go Go.Proofs
set_option maxRecDepth 100000
set_option maxHeartbeats 4000000
set_option linter.unusedVariables false
set_option linter.unusedSimpArgs false
theorem acheck_o1 (R1 R2 : List (Int × Int)) (zR1 : 1 ≤ R1.length ∧ R1.length ≤ 200) (fR1 : Sp.Few 1000 R1) (zR2 : 1 ≤ R2.length ∧ R2.length ≤ 200) (fR2 : Sp.Few 1000 R2) (cR1 : Sp.chkF R1 = 0) (cR2 : Sp.chkF R2 = 0) (F21 : Sp.Fit R2 R1 (-1) 1) :
    AC Try.prog 18 3 ([sV 0 2]) [(0, ⟨[sV 1 R1.length, sV 2 R2.length], 30, true, 1⟩), (1, (pB R1)), (2, (pB R2))] (.int .i64 0) [(0, ⟨[sV 1 R1.length, sV 2 R2.length], 30, true, 1⟩), (1, (pB R1)), (2, (pB R2))] := by
  refine ac_in Try.func18 (fun w0 W pin => ?_)
  refine aw_p 3 (
    .a 1 3 <| .nil _ _) ?_
  refine aw_sq 6 7 ?_
  refine aw_p 13 (
    .a 3 3 <| .nil _ _) ?_
  refine aw_fl 27 ?_
  refine aw_sk ?_
  refine then_normal ?_
  refine aw_sq 14 15 ?_
  refine aw_p 29 (
    .a 3 3 <| .nil _ _) ?_
  refine aw_bl 0 59 ?_
  refine aw_lp 119 ?_
  refine al_round ?_
  refine aw_p 239 (
    .a 1 3 <| .nil _ _) ?_
  refine aw_sq 478 479 ?_
  refine aw_tr 956 ?_
  refine aw_sk ?_
  refine then_normal ?_
  refine aw_sq 958 959 ?_
  refine aw_bl 1 1917 ?_
  refine aw_p 3835 (
    .a 3 3 <| .nil _ _) ?_
  refine aw_p 7671 (
    .a 1 3 <| .p (cS (m := 1) (args0 := [sV 0 R1.length]) (pre0 := [(0, (pB R1))]) (v0 := .int .i64 0) #[.tmp 19] #[30] [sV 1 R1.length] [1] [(1, (pB R1))] (.int .i64 0) ((by have h := chkn_own R1 R1.length rfl (by omega); rw [cR1] at h; exact h)) (.cons rS .nil) ⟨rfl, bP, trivial⟩ rF) <| .a 1 3 <| .nil _ _) ?_
  refine aw_p 15343 (
    .a 2 3 <| .nil _ _) ?_
  refine aw_fl 30687 ?_
  refine aw_sk ?_
  refine block_normal ?_
  refine then_normal ?_
  refine aw_p1 (
    .a 2 3 <| .nil _ _) ?_
  refine then_normal ?_
  refine al_round ?_
  refine aw_p 239 (
    .a 1 3 <| .nil _ _) ?_
  refine aw_sq 478 479 ?_
  refine aw_tr 956 ?_
  refine aw_sk ?_
  refine then_normal ?_
  refine aw_sq 958 959 ?_
  refine aw_bl 1 1917 ?_
  refine aw_p 3835 (
    .a 3 3 <| .nil _ _) ?_
  refine aw_p 7671 (
    .a 1 3 <| .p (cS (m := 1) (args0 := [sV 0 R2.length]) (pre0 := [(0, (pB R2))]) (v0 := .int .i64 0) #[.tmp 19] #[30] [sV 2 R2.length] [2] [(2, (pB R2))] (.int .i64 0) ((by have h := chkn_own R2 R2.length rfl (by omega); rw [cR2] at h; exact h)) (.cons rS .nil) ⟨rfl, bP, trivial⟩ rF) <| .a 1 3 <| .nil _ _) ?_
  refine aw_p 15343 (
    .a 2 3 <| .nil _ _) ?_
  refine aw_fl 30687 ?_
  refine aw_sk ?_
  refine block_normal ?_
  refine then_normal ?_
  refine aw_p1 (
    .a 2 3 <| .nil _ _) ?_
  refine then_normal ?_
  refine al_round ?_
  refine aw_p 239 (
    .a 1 3 <| .nil _ _) ?_
  refine aw_sq 478 479 ?_
  refine aw_fl 957 ?_
  refine aw_ex 0 ?_
  refine then_exit ?_
  refine then_exit ?_
  refine block_exit ?_
  refine then_normal ?_
  refine aw_sq 30 31 ?_
  refine aw_p 61 (
    .a 3 3 <| .nil _ _) ?_
  refine aw_bl 2 123 ?_
  refine aw_lp 247 ?_
  refine al_round ?_
  refine aw_p 495 (
    .a 1 3 <| .nil _ _) ?_
  refine aw_sq 990 991 ?_
  refine aw_tr 1980 ?_
  refine aw_sk ?_
  refine then_normal ?_
  refine aw_sq 1982 1983 ?_
  refine aw_bl 3 3965 ?_
  refine aw_p 7931 (
    .a 5 3 <| .nil _ _) ?_
  refine aw_p 15863 (
    .a 2 3 <|
    .p (does_val (v' := sV 0 0) (does_slice (t := 25) (x := .tmp 32) (lo := none) (hi := some (.tmp 33)) (k := 0) (off := 0) (n := 2) (c := 0) (z := 1) (l := 0) (h := 0) (m := 0) (b := ⟨[sV 1 R1.length, sV 2 R2.length], 30, true, 1⟩) (by kernel_rfl) (by kernel_rfl) (by kernel_rfl) (by kernel_rfl) (by kernel_rfl) (by kernel_rfl) (by kernel_rfl) (by kernel_rfl) (by decide) (by decide) (by decide) (by decide)) (by kernel_rfl)) <|
    .a 2 3 <| .nil _ _) ?_
  refine aw_bl 4 31727 ?_
  refine aw_lp 63455 ?_
  refine al_round ?_
  refine aw_p 126911 (
    .a 1 3 <| .nil _ _) ?_
  refine aw_sq 253822 253823 ?_
  refine aw_fl 507645 ?_
  refine aw_ex 4 ?_
  refine then_exit ?_
  refine then_exit ?_
  refine block_exit ?_
  refine block_normal ?_
  refine then_normal ?_
  refine aw_p1 (
    .a 2 3 <| .nil _ _) ?_
  refine then_normal ?_
  refine al_round ?_
  refine aw_p 495 (
    .a 1 3 <| .nil _ _) ?_
  refine aw_sq 990 991 ?_
  refine aw_tr 1980 ?_
  refine aw_sk ?_
  refine then_normal ?_
  refine aw_sq 1982 1983 ?_
  refine aw_bl 3 3965 ?_
  refine aw_p 7931 (
    .a 5 3 <| .nil _ _) ?_
  refine aw_p 15863 (
    .a 2 3 <|
    .p (does_val (v' := sV 0 1) (does_slice (t := 25) (x := .tmp 32) (lo := none) (hi := some (.tmp 33)) (k := 0) (off := 0) (n := 2) (c := 0) (z := 1) (l := 0) (h := 1) (m := 1) (b := ⟨[sV 1 R1.length, sV 2 R2.length], 30, true, 1⟩) (by kernel_rfl) (by kernel_rfl) (by kernel_rfl) (by kernel_rfl) (by kernel_rfl) (by kernel_rfl) (by kernel_rfl) (by kernel_rfl) (by decide) (by decide) (by decide) (by decide)) (by kernel_rfl)) <|
    .a 2 3 <| .nil _ _) ?_
  refine aw_bl 4 31727 ?_
  refine aw_lp 63455 ?_
  refine al_round ?_
  refine aw_p 126911 (
    .a 1 3 <| .nil _ _) ?_
  refine aw_sq 253822 253823 ?_
  refine aw_tr 507644 ?_
  refine aw_sk ?_
  refine then_normal ?_
  refine aw_sq 507646 507647 ?_
  refine aw_bl 5 1015293 ?_
  refine aw_p 2030587 (
    .a 3 3 <| .nil _ _) ?_
  refine aw_p 4061175 (
    .a 2 3 <| .p (cS #[.tmp 40, .tmp 41] #[30, 30] [sV 2 R2.length, sV 1 R1.length] [2, 1] [(2, (pB R2)), (1, (pB R1))] (.bool true) (fits_ok R2 R1 (-1) 1 zR2 fR2 zR1 fR1 F21) (.cons rS (.cons rS .nil)) ⟨rfl, bP, rfl, bP, trivial⟩ rF) <| .a 1 3 <| .nil _ _) ?_
  refine aw_fl 8122351 ?_
  refine aw_sk ?_
  refine block_normal ?_
  refine then_normal ?_
  refine aw_p1 (
    .a 2 3 <| .nil _ _) ?_
  refine then_normal ?_
  refine al_round ?_
  refine aw_p 126911 (
    .a 1 3 <| .nil _ _) ?_
  refine aw_sq 253822 253823 ?_
  refine aw_fl 507645 ?_
  refine aw_ex 4 ?_
  refine then_exit ?_
  refine then_exit ?_
  refine block_exit ?_
  refine block_normal ?_
  refine then_normal ?_
  refine aw_p1 (
    .a 2 3 <| .nil _ _) ?_
  refine then_normal ?_
  refine al_round ?_
  refine aw_p 495 (
    .a 1 3 <| .nil _ _) ?_
  refine aw_sq 990 991 ?_
  refine aw_fl 1981 ?_
  refine aw_ex 2 ?_
  refine then_exit ?_
  refine then_exit ?_
  refine block_exit ?_
  refine then_normal ?_
  refine aw_p 63 (
    .a 1 3 <| .nil _ _) ?_
  refine aw_rt ?_
  exact en_ret [.int .i64 0] (by kernel_rfl)
theorem adepth_o1 (R1 R2 : List (Int × Int)) (zR1 : 1 ≤ R1.length ∧ R1.length ≤ 200) (fR1 : Sp.Few 1000 R1) (zR2 : 1 ≤ R2.length ∧ R2.length ≤ 200) (fR2 : Sp.Few 1000 R2) (cR1 : Sp.chkF R1 = 0) (cR2 : Sp.chkF R2 = 0) (F21 : Sp.Fit R2 R1 (-1) 1) :
    AC Try.prog 13 3 ([sV 0 2]) [(0, ⟨[sV 1 R1.length, sV 2 R2.length], 30, true, 1⟩), (1, (pB R1)), (2, (pB R2))] (sV 3 2) [(0, ⟨[sV 1 R1.length, sV 2 R2.length], 30, true, 1⟩), (1, (pB R1)), (2, (pB R2)), (3, ⟨[.int .i64 1, .int .i64 0], 3, true, 1⟩)] := by
  refine ac_in Try.func13 (fun w0 W pin => ?_)
  refine aw_p 3 (
    .a 1 3 <| .nil _ _) ?_
  refine aw_sq 6 7 ?_
  refine aw_p 13 (
    .a 1 3 <| .p (cS #[.tmp 8] #[25] [sV 0 2] [0, 1, 2] [(0, ⟨[sV 1 R1.length, sV 2 R2.length], 30, true, 1⟩), (1, (pB R1)), (2, (pB R2))] (.int .i64 0) (acheck_o1 R1 R2 zR1 fR1 zR2 fR2 cR1 cR2 F21) (.cons rS .nil) ⟨rfl, ⟨rfl, rfl, rfl, (.cons rS (.cons rS .nil))⟩, rfl, bP, rfl, bP, trivial⟩ rF) <|
    .a 1 3 <| .nil _ _) ?_
  refine aw_fl 27 ?_
  refine aw_sk ?_
  refine then_normal ?_
  refine aw_p 15 (
    .a 2 3 <| .p (does_mk (kl := .i64) (kc := .i64) (n' := 2) (c' := 2) 3 3 1 8 2 2 (.int .i64 0) [.int .i64 0, .int .i64 0] (by kernel_rfl) (by kernel_rfl) (by kernel_rfl) (by kernel_rfl) (by decide) (by decide) (by decide) (by decide) (by decide)) <| .a 1 4 <| .nil _ _) ?_
  refine aw_sq 30 31 ?_
  refine aw_p 61 (
    .a 3 4 <| .nil _ _) ?_
  refine aw_bl 0 123 ?_
  refine aw_lp 247 ?_
  refine al_round ?_
  refine aw_p 495 (
    .a 1 4 <| .nil _ _) ?_
  refine aw_sq 990 991 ?_
  refine aw_tr 1980 ?_
  refine aw_sk ?_
  refine then_normal ?_
  refine aw_sq 1982 1983 ?_
  refine aw_bl 1 3965 ?_
  refine aw_p 7931 (
    .a 5 4 <| .nil _ _) ?_
  refine aw_p 15863 (
    .a 3 4 <| .nil _ _) ?_
  refine aw_bl 2 31727 ?_
  refine aw_lp 63455 ?_
  refine al_round ?_
  refine aw_p 126911 (
    .a 1 4 <| .nil _ _) ?_
  refine aw_sq 253822 253823 ?_
  refine aw_tr 507644 ?_
  refine aw_sk ?_
  refine then_normal ?_
  refine aw_sq 507646 507647 ?_
  refine aw_bl 3 1015293 ?_
  refine aw_p 2030587 (
    .a 5 4 <| .nil _ _) ?_
  refine aw_p 4061175 (
    .a 9 4 <| .nil _ _) ?_
  refine aw_fl 8122351 ?_
  refine aw_sk ?_
  refine block_normal ?_
  refine then_normal ?_
  refine aw_p1 (
    .a 2 4 <| .nil _ _) ?_
  refine then_normal ?_
  refine al_round ?_
  refine aw_p 126911 (
    .a 1 4 <| .nil _ _) ?_
  refine aw_sq 253822 253823 ?_
  refine aw_tr 507644 ?_
  refine aw_sk ?_
  refine then_normal ?_
  refine aw_sq 507646 507647 ?_
  refine aw_bl 3 1015293 ?_
  refine aw_p 2030587 (
    .a 5 4 <| .nil _ _) ?_
  refine aw_p 4061175 (
    .a 6 4 <|
    .p (cS (m := 2) (args0 := [sV 0 R1.length, .int .i64 0, sV 1 R2.length]) (pre0 := [(0, (pB R1)), (1, (pB R2))]) (v0 := .int .i64 1) #[.tmp 32, .const (.int .i64 0), .tmp 33] #[30, 3, 30] [sV 1 R1.length, .int .i64 0, sV 2 R2.length] [1, 2] [(1, (pB R1)), (2, (pB R2))] (.int .i64 1) ((by have h := side_ok R1 R2 zR1 fR1 zR2 fR2 0 (by omega); rw [Sp.side_at F21.2.2 (by omega)] at h; exact h)) (.cons rS (.cons rF (.cons rS .nil))) ⟨rfl, bP, rfl, bP, trivial⟩ rF) <|
    .a 2 4 <| .nil _ _) ?_
  refine aw_tr 8122350 ?_
  refine aw_p1 (
    .a 7 4 <| .nil _ _) ?_
  refine block_normal ?_
  refine then_normal ?_
  refine aw_p1 (
    .a 2 4 <| .nil _ _) ?_
  refine then_normal ?_
  refine al_round ?_
  refine aw_p 126911 (
    .a 1 4 <| .nil _ _) ?_
  refine aw_sq 253822 253823 ?_
  refine aw_fl 507645 ?_
  refine aw_ex 2 ?_
  refine then_exit ?_
  refine then_exit ?_
  refine block_exit ?_
  refine block_normal ?_
  refine then_normal ?_
  refine aw_p1 (
    .a 2 4 <| .nil _ _) ?_
  refine then_normal ?_
  refine al_round ?_
  refine aw_p 495 (
    .a 1 4 <| .nil _ _) ?_
  refine aw_sq 990 991 ?_
  refine aw_tr 1980 ?_
  refine aw_sk ?_
  refine then_normal ?_
  refine aw_sq 1982 1983 ?_
  refine aw_bl 1 3965 ?_
  refine aw_p 7931 (
    .a 5 4 <| .nil _ _) ?_
  refine aw_p 15863 (
    .a 3 4 <| .nil _ _) ?_
  refine aw_bl 2 31727 ?_
  refine aw_lp 63455 ?_
  refine al_round ?_
  refine aw_p 126911 (
    .a 1 4 <| .nil _ _) ?_
  refine aw_sq 253822 253823 ?_
  refine aw_tr 507644 ?_
  refine aw_sk ?_
  refine then_normal ?_
  refine aw_sq 507646 507647 ?_
  refine aw_bl 3 1015293 ?_
  refine aw_p 2030587 (
    .a 5 4 <| .nil _ _) ?_
  refine aw_p 4061175 (
    .a 6 4 <|
    .p (cS (m := 2) (args0 := [sV 0 R2.length, .int .i64 0, sV 1 R1.length]) (pre0 := [(0, (pB R2)), (1, (pB R1))]) (v0 := .int .i64 (-1)) #[.tmp 32, .const (.int .i64 0), .tmp 33] #[30, 3, 30] [sV 2 R2.length, .int .i64 0, sV 1 R1.length] [2, 1] [(2, (pB R2)), (1, (pB R1))] (.int .i64 (-1)) ((by have h := side_ok R2 R1 zR2 fR2 zR1 fR1 0 (by omega); rw [Sp.side_at F21.2.1 (by omega)] at h; exact h)) (.cons rS (.cons rF (.cons rS .nil))) ⟨rfl, bP, rfl, bP, trivial⟩ rF) <|
    .a 2 4 <| .nil _ _) ?_
  refine aw_fl 8122351 ?_
  refine aw_sk ?_
  refine block_normal ?_
  refine then_normal ?_
  refine aw_p1 (
    .a 2 4 <| .nil _ _) ?_
  refine then_normal ?_
  refine al_round ?_
  refine aw_p 126911 (
    .a 1 4 <| .nil _ _) ?_
  refine aw_sq 253822 253823 ?_
  refine aw_tr 507644 ?_
  refine aw_sk ?_
  refine then_normal ?_
  refine aw_sq 507646 507647 ?_
  refine aw_bl 3 1015293 ?_
  refine aw_p 2030587 (
    .a 5 4 <| .nil _ _) ?_
  refine aw_p 4061175 (
    .a 9 4 <| .nil _ _) ?_
  refine aw_fl 8122351 ?_
  refine aw_sk ?_
  refine block_normal ?_
  refine then_normal ?_
  refine aw_p1 (
    .a 2 4 <| .nil _ _) ?_
  refine then_normal ?_
  refine al_round ?_
  refine aw_p 126911 (
    .a 1 4 <| .nil _ _) ?_
  refine aw_sq 253822 253823 ?_
  refine aw_fl 507645 ?_
  refine aw_ex 2 ?_
  refine then_exit ?_
  refine then_exit ?_
  refine block_exit ?_
  refine block_normal ?_
  refine then_normal ?_
  refine aw_p1 (
    .a 2 4 <| .nil _ _) ?_
  refine then_normal ?_
  refine al_round ?_
  refine aw_p 495 (
    .a 1 4 <| .nil _ _) ?_
  refine aw_sq 990 991 ?_
  refine aw_fl 1981 ?_
  refine aw_ex 0 ?_
  refine then_exit ?_
  refine then_exit ?_
  refine block_exit ?_
  refine then_normal ?_
  refine aw_p 63 (
    .a 2 4 <| .nil _ _) ?_
  refine aw_rt ?_
  exact en_ret [sV 3 2] (by kernel_rfl)
end Go.Proofs.Ytndkhgfecnbmnaa.Am

namespace Go.Proofs.Ytndkhgfecnbmnaa.Am
open Go Go.Proofs
set_option maxRecDepth 100000
set_option maxHeartbeats 4000000
set_option linter.unusedVariables false
set_option linter.unusedSimpArgs false
theorem anormq_n2 (x1 y1 r1 x2 y2 r2 : Int) (s1 : 1 ≤ r1) (u1 : r1 ≤ 20) (v1 : -40 ≤ x1 - r1 ∧ x1 + r1 ≤ 40) (w1 : -40 ≤ y1 - r1 ∧ y1 + r1 ≤ 40) (s2 : 1 ≤ r2) (u2 : r2 ≤ 20) (v2 : -40 ≤ x2 - r2 ∧ x2 + r2 ≤ 40) (w2 : -40 ≤ y2 - r2 ∧ y2 + r2 ≤ 40) (c1 : Sp.chkF (Sp.hob x2 y2 r2) = 0) (c2 : Sp.chkF (Sp.sqb x1 y1 r1) = 0) (F21 : Sp.Fit (Sp.sqb x1 y1 r1) (Sp.hob x2 y2 r2) (-1) 1) (o21 : Sp.pcmp ((Sp.sqr x1 y1 r1).getD 0 (0, 0)).1 ((Sp.sqr x1 y1 r1).getD 0 (0, 0)).2 ((Sp.hol x2 y2 r2).getD 0 (0, 0)).1 ((Sp.hol x2 y2 r2).getD 0 (0, 0)).2 = -1) :
    AC Try.prog 22 3 ([sV 0 2]) [(0, ⟨[sV 1 4, sV 2 4], 30, true, 1⟩), (1, (pB (Sp.hob x2 y2 r2))), (2, (pB (Sp.sqb x1 y1 r1)))] (sV 3 2) [(0, ⟨[sV 1 4, sV 2 4], 30, true, 1⟩), (1, (pB (Sp.hob x2 y2 r2))), (2, (pB (Sp.sqb x1 y1 r1))), (3, ⟨[sV 4 4, sV 5 4], 30, true, 1⟩), (4, (pB (Sp.sqr x1 y1 r1))), (5, (pB (Sp.hol x2 y2 r2)))] := by
  refine ac_in Try.func22 (fun w0 W pin => ?_)
  refine aw_p 3 (
    .a 1 3 <| .nil _ _) ?_
  refine aw_p 7 (
    .a 1 3 <| .nil _ _) ?_
  refine aw_sq 14 15 ?_
  refine aw_p 29 (
    .a 1 3 <|
    .p (cF #[.tmp 7] #[25] [sV 0 2] 1 [0, 1, 2, 3] [(0, ⟨[sV 1 4, sV 2 4], 30, true, 1⟩), (1, (pB (Sp.hob x2 y2 r2))), (2, (pB (Sp.sqb x1 y1 r1)))] [(0, ⟨[sV 1 4, sV 2 4], 30, true, 1⟩), (1, (pB (Sp.hob x2 y2 r2))), (2, (pB (Sp.sqb x1 y1 r1))), (3, ⟨[.int .i64 1, .int .i64 0], 3, true, 1⟩)] (sV 3 2) (adepth_o1 (Sp.hob x2 y2 r2) (Sp.sqb x1 y1 r1) ⟨by simp [Sp.sqr, Sp.hol, Sp.sqb, Sp.hob], by simp [Sp.sqr, Sp.hol, Sp.sqb, Sp.hob]⟩ (Sp.few_sqb (m := 1000) (by omega) (by omega) (by omega)).2 ⟨by simp [Sp.sqr, Sp.hol, Sp.sqb, Sp.hob], by simp [Sp.sqr, Sp.hol, Sp.sqb, Sp.hob]⟩ (Sp.few_sqb (m := 1000) (by omega) (by omega) (by omega)).1 c1 c2 F21) (.cons rS .nil) ⟨rfl, ⟨rfl, rfl, rfl, (.cons rS (.cons rS .nil))⟩, rfl, bP, rfl, bP, trivial⟩ ⟨rfl, ⟨rfl, rfl, rfl, (.cons rS (.cons rS .nil))⟩, rfl, bP, rfl, bP, rfl, ⟨rfl, rfl, rfl, (.flats (by kernel_rfl))⟩, trivial⟩ rS) <|
    .a 2 4 <| .nil _ _) ?_
  refine aw_bl 0 59 ?_
  refine aw_lp 119 ?_
  refine al_round ?_
  refine aw_p 239 (
    .a 1 4 <| .nil _ _) ?_
  refine aw_sq 478 479 ?_
  refine aw_tr 956 ?_
  refine aw_sk ?_
  refine then_normal ?_
  refine aw_sq 958 959 ?_
  refine aw_bl 1 1917 ?_
  refine aw_p 3835 (
    .a 5 4 <| .nil _ _) ?_
  refine aw_p 7671 (
    .a 4 4 <|
    .p (cF #[.tmp 18] #[30] [sV 1 4] 1 [1, 4] [(1, (pB (Sp.hob x2 y2 r2)))] [(1, (pB (Sp.hob x2 y2 r2))), (4, (pB (Sp.sqr x2 y2 r2)))] (sV 4 4) (norm_n (Sp.hob x2 y2 r2) (Sp.sqr x2 y2 r2) 3 4 (by simp [Sp.sqb, Sp.hob]) (by decide) (by decide) (by decide) (Sp.chk_diff c1).2 (Sp.sqb_least s2).2 (Sp.sqb_norm s2 u2 v2 w2).2) (.cons rS .nil) ⟨rfl, bP, trivial⟩ ⟨rfl, bP, rfl, bP, trivial⟩ rS) <|
    .a 1 5 <| .nil _ _) ?_
  refine aw_sq 15342 15343 ?_
  refine aw_p 30685 (
    .a 3 5 <| .nil _ _) ?_
  refine aw_tr 61370 ?_
  refine aw_p1 (
    .a 1 5 <|
    .p (does_val (v' := .slice (some ⟨4, 2, none⟩) 3 0) (does_slice (t := 30) (x := .tmp 23) (lo := some (.const (.int .i64 1))) (hi := none) (k := 4) (off := 0) (n := 4) (c := 0) (z := 2) (l := 1) (h := ((4 : Nat) : Int)) (m := 3) (b := (pB (Sp.sqr x2 y2 r2))) (by kernel_rfl) (by kernel_rfl) (by kernel_rfl) (by kernel_rfl) (by kernel_rfl) (by kernel_rfl) (by kernel_rfl) (by kernel_rfl) (by decide) (by decide) (by decide) (by decide)) (by kernel_rfl)) <|
    .p (cF (m := 1) (args0 := [.slice (some ⟨0, 2, none⟩) 3 0]) (pre0 := [(0, (pB (Sp.sqr x2 y2 r2)))]) (post0 := [(0, (pB (Sp.hol x2 y2 r2)))]) (v0 := .tuple #[]) #[.tmp 24] #[30] [.slice (some ⟨4, 2, none⟩) 3 0] 0 [4] [(4, (pB (Sp.sqr x2 y2 r2)))] [(4, (pB (Sp.hol x2 y2 r2)))] (.tuple #[]) (revtail_ok x2 y2 r2) (.cons rS .nil) ⟨rfl, bP, trivial⟩ ⟨rfl, bP, trivial⟩ rF) <| .nil _ _) ?_
  refine then_normal ?_
  refine aw_p1 (
    .a 3 5 <| .p (does_ap 6) <| .a 1 7 <| .nil _ _) ?_
  refine block_normal ?_
  refine then_normal ?_
  refine aw_p1 (
    .a 2 7 <| .nil _ _) ?_
  refine then_normal ?_
  refine al_round ?_
  refine aw_p 239 (
    .a 1 7 <| .nil _ _) ?_
  refine aw_sq 478 479 ?_
  refine aw_tr 956 ?_
  refine aw_sk ?_
  refine then_normal ?_
  refine aw_sq 958 959 ?_
  refine aw_bl 1 1917 ?_
  refine aw_p 3835 (
    .a 5 7 <| .nil _ _) ?_
  refine aw_p 7671 (
    .a 4 7 <|
    .p (cF #[.tmp 18] #[30] [sV 2 4] 1 [2, 7] [(2, (pB (Sp.sqb x1 y1 r1)))] [(2, (pB (Sp.sqb x1 y1 r1))), (7, (pB (Sp.sqr x1 y1 r1)))] (sV 7 4) (norm_n (Sp.sqb x1 y1 r1) (Sp.sqr x1 y1 r1) 3 4 (by simp [Sp.sqb, Sp.hob]) (by decide) (by decide) (by decide) (Sp.chk_diff c2).2 (Sp.sqb_least s1).1 (Sp.sqb_norm s1 u1 v1 w1).1) (.cons rS .nil) ⟨rfl, bP, trivial⟩ ⟨rfl, bP, rfl, bP, trivial⟩ rS) <|
    .a 1 8 <| .nil _ _) ?_
  refine aw_sq 15342 15343 ?_
  refine aw_p 30685 (
    .a 3 8 <| .nil _ _) ?_
  refine aw_fl 61371 ?_
  refine aw_sk ?_
  refine then_normal ?_
  refine aw_p1 (
    .a 3 8 <| .p (does_ap 9) <| .a 1 10 <| .nil _ _) ?_
  refine block_normal ?_
  refine then_normal ?_
  refine aw_p1 (
    .a 2 10 <| .nil _ _) ?_
  refine then_normal ?_
  refine al_round ?_
  refine aw_p 239 (
    .a 1 10 <| .nil _ _) ?_
  refine aw_sq 478 479 ?_
  refine aw_fl 957 ?_
  refine aw_ex 0 ?_
  refine then_exit ?_
  refine then_exit ?_
  refine block_exit ?_
  refine then_normal ?_
  refine aw_p 31 (
    .a 1 10 <|
    .p (cF #[.tmp 31, .func 66] #[25, 83] [sV 9 2, .func (.func 66) #[] #[]] 0 [9, 4, 7] [(9, ⟨[sV 4 4, sV 7 4], 30, true, 1⟩), (4, (pB (Sp.hol x2 y2 r2))), (7, (pB (Sp.sqr x1 y1 r1)))] [(9, ⟨[sV 7 4, sV 4 4], 30, true, 1⟩), (4, (pB (Sp.hol x2 y2 r2))), (7, (pB (Sp.sqr x1 y1 r1)))] (.tuple #[]) (srtd_2 (Sp.hol x2 y2 r2) (Sp.sqr x1 y1 r1) ⟨by simp [Sp.sqr, Sp.hol, Sp.sqb, Sp.hob], by simp [Sp.sqr, Sp.hol, Sp.sqb, Sp.hob]⟩ ⟨by simp [Sp.sqr, Sp.hol, Sp.sqb, Sp.hob], by simp [Sp.sqr, Sp.hol, Sp.sqb, Sp.hob]⟩ o21) (.cons rS (.cons rF .nil)) ⟨rfl, ⟨rfl, rfl, rfl, (.cons rS (.cons rS .nil))⟩, rfl, bP, rfl, bP, trivial⟩ ⟨rfl, ⟨rfl, rfl, rfl, (.cons rS (.cons rS .nil))⟩, rfl, bP, rfl, bP, trivial⟩ rF) <| .nil _ _) ?_
  refine aw_p 63 (
    .a 2 10 <| .nil _ _) ?_
  refine aw_r [(3, 9), (4, 7), (5, 4)] [(2, sV 9 2)] [(0, ⟨[sV 1 4, sV 2 4], 30, true, 1⟩), (1, (pB (Sp.hob x2 y2 r2))), (2, (pB (Sp.sqb x1 y1 r1))), (9, ⟨[sV 7 4, sV 4 4], 30, true, 1⟩), (7, (pB (Sp.sqr x1 y1 r1))), (4, (pB (Sp.hol x2 y2 r2)))] [(2, sV 3 2)] [(0, ⟨[sV 1 4, sV 2 4], 30, true, 1⟩), (1, (pB (Sp.hob x2 y2 r2))), (2, (pB (Sp.sqb x1 y1 r1))), (3, ⟨[sV 4 4, sV 5 4], 30, true, 1⟩), (4, (pB (Sp.sqr x1 y1 r1))), (5, (pB (Sp.hol x2 y2 r2)))] ?_ ⟨rfl, (rK rfl), trivial⟩ ⟨rfl, ⟨rfl, rfl, rfl, (.cons (rK rfl) (.cons (rK rfl) .nil))⟩, rfl, ⟨rfl, rfl, rfl, (.flats (flats_pair _))⟩, rfl, ⟨rfl, rfl, rfl, (.flats (flats_pair _))⟩, rfl, ⟨rfl, rfl, rfl, (.cons (rK rfl) (.cons (rK rfl) .nil))⟩, rfl, ⟨rfl, rfl, rfl, (.flats (flats_pair _))⟩, rfl, ⟨rfl, rfl, rfl, (.flats (flats_pair _))⟩, trivial⟩
  refine aw_rt ?_
  exact en_ret [sV 3 2] (by kernel_rfl)
end Go.Proofs.Ytndkhgfecnbmnaa.Am

namespace Go.Proofs.Ytndkhgfecnbmnaa.Am
open Go Go.Proofs
set_option maxRecDepth 100000
set_option maxHeartbeats 4000000
set_option linter.unusedVariables false
set_option linter.unusedSimpArgs false
theorem anormq_n3 (x1 y1 r1 x2 y2 r2 x3 y3 r3 : Int) (s1 : 1 ≤ r1) (u1 : r1 ≤ 20) (v1 : -40 ≤ x1 - r1 ∧ x1 + r1 ≤ 40) (w1 : -40 ≤ y1 - r1 ∧ y1 + r1 ≤ 40) (s2 : 1 ≤ r2) (u2 : r2 ≤ 20) (v2 : -40 ≤ x2 - r2 ∧ x2 + r2 ≤ 40) (w2 : -40 ≤ y2 - r2 ∧ y2 + r2 ≤ 40) (s3 : 1 ≤ r3) (u3 : r3 ≤ 20) (v3 : -40 ≤ x3 - r3 ∧ x3 + r3 ≤ 40) (w3 : -40 ≤ y3 - r3 ∧ y3 + r3 ≤ 40) (c1 : Sp.chkF (Sp.sqb x3 y3 r3) = 0) (c2 : Sp.chkF (Sp.hob x2 y2 r2) = 0) (c3 : Sp.chkF (Sp.sqb x1 y1 r1) = 0) (F21 : Sp.Fit (Sp.hob x2 y2 r2) (Sp.sqb x3 y3 r3) (-1) 1) (F31 : Sp.Fit (Sp.sqb x1 y1 r1) (Sp.sqb x3 y3 r3) (-1) 1) (F32 : Sp.Fit (Sp.sqb x1 y1 r1) (Sp.hob x2 y2 r2) (-1) 1) (o21 : Sp.pcmp ((Sp.hol x2 y2 r2).getD 0 (0, 0)).1 ((Sp.hol x2 y2 r2).getD 0 (0, 0)).2 ((Sp.sqr x3 y3 r3).getD 0 (0, 0)).1 ((Sp.sqr x3 y3 r3).getD 0 (0, 0)).2 = -1) (o31 : Sp.pcmp ((Sp.sqr x1 y1 r1).getD 0 (0, 0)).1 ((Sp.sqr x1 y1 r1).getD 0 (0, 0)).2 ((Sp.sqr x3 y3 r3).getD 0 (0, 0)).1 ((Sp.sqr x3 y3 r3).getD 0 (0, 0)).2 = -1) (o32 : Sp.pcmp ((Sp.sqr x1 y1 r1).getD 0 (0, 0)).1 ((Sp.sqr x1 y1 r1).getD 0 (0, 0)).2 ((Sp.hol x2 y2 r2).getD 0 (0, 0)).1 ((Sp.hol x2 y2 r2).getD 0 (0, 0)).2 = -1) :
    AC Try.prog 22 4 ([sV 0 3]) [(0, ⟨[sV 1 4, sV 2 4, sV 3 4], 30, true, 1⟩), (1, (pB (Sp.sqb x3 y3 r3))), (2, (pB (Sp.hob x2 y2 r2))), (3, (pB (Sp.sqb x1 y1 r1)))] (sV 4 3) [(0, ⟨[sV 1 4, sV 2 4, sV 3 4], 30, true, 1⟩), (1, (pB (Sp.sqb x3 y3 r3))), (2, (pB (Sp.hob x2 y2 r2))), (3, (pB (Sp.sqb x1 y1 r1))), (4, ⟨[sV 5 4, sV 6 4, sV 7 4], 30, true, 1⟩), (5, (pB (Sp.sqr x1 y1 r1))), (6, (pB (Sp.hol x2 y2 r2))), (7, (pB (Sp.sqr x3 y3 r3)))] := by
  refine ac_in Try.func22 (fun w0 W pin => ?_)
  refine aw_p 3 (
    .a 1 4 <| .nil _ _) ?_
  refine aw_p 7 (
    .a 1 4 <| .nil _ _) ?_
  refine aw_sq 14 15 ?_
  refine aw_p 29 (
    .a 1 4 <|
    .p (cF #[.tmp 7] #[25] [sV 0 3] 1 [0, 1, 2, 3, 4] [(0, ⟨[sV 1 4, sV 2 4, sV 3 4], 30, true, 1⟩), (1, (pB (Sp.sqb x3 y3 r3))), (2, (pB (Sp.hob x2 y2 r2))), (3, (pB (Sp.sqb x1 y1 r1)))] [(0, ⟨[sV 1 4, sV 2 4, sV 3 4], 30, true, 1⟩), (1, (pB (Sp.sqb x3 y3 r3))), (2, (pB (Sp.hob x2 y2 r2))), (3, (pB (Sp.sqb x1 y1 r1))), (4, ⟨[.int .i64 2, .int .i64 1, .int .i64 0], 3, true, 1⟩)] (sV 4 3) (adepth_q3 (Sp.sqb x3 y3 r3) (Sp.hob x2 y2 r2) (Sp.sqb x1 y1 r1) ⟨by simp [Sp.sqr, Sp.hol, Sp.sqb, Sp.hob], by simp [Sp.sqr, Sp.hol, Sp.sqb, Sp.hob]⟩ (Sp.few_sqb (m := 1000) (by omega) (by omega) (by omega)).1 ⟨by simp [Sp.sqr, Sp.hol, Sp.sqb, Sp.hob], by simp [Sp.sqr, Sp.hol, Sp.sqb, Sp.hob]⟩ (Sp.few_sqb (m := 1000) (by omega) (by omega) (by omega)).2 ⟨by simp [Sp.sqr, Sp.hol, Sp.sqb, Sp.hob], by simp [Sp.sqr, Sp.hol, Sp.sqb, Sp.hob]⟩ (Sp.few_sqb (m := 1000) (by omega) (by omega) (by omega)).1 c1 c2 c3 F21 F31 F32) (.cons rS .nil) ⟨rfl, ⟨rfl, rfl, rfl, (.cons rS (.cons rS (.cons rS .nil)))⟩, rfl, bP, rfl, bP, rfl, bP, trivial⟩ ⟨rfl, ⟨rfl, rfl, rfl, (.cons rS (.cons rS (.cons rS .nil)))⟩, rfl, bP, rfl, bP, rfl, bP, rfl, ⟨rfl, rfl, rfl, (.flats (by kernel_rfl))⟩, trivial⟩ rS) <|
    .a 2 5 <| .nil _ _) ?_
  refine aw_bl 0 59 ?_
  refine aw_lp 119 ?_
  refine al_round ?_
  refine aw_p 239 (
    .a 1 5 <| .nil _ _) ?_
  refine aw_sq 478 479 ?_
  refine aw_tr 956 ?_
  refine aw_sk ?_
  refine then_normal ?_
  refine aw_sq 958 959 ?_
  refine aw_bl 1 1917 ?_
  refine aw_p 3835 (
    .a 5 5 <| .nil _ _) ?_
  refine aw_p 7671 (
    .a 4 5 <|
    .p (cF #[.tmp 18] #[30] [sV 1 4] 1 [1, 5] [(1, (pB (Sp.sqb x3 y3 r3)))] [(1, (pB (Sp.sqb x3 y3 r3))), (5, (pB (Sp.sqr x3 y3 r3)))] (sV 5 4) (norm_n (Sp.sqb x3 y3 r3) (Sp.sqr x3 y3 r3) 3 4 (by simp [Sp.sqb, Sp.hob]) (by decide) (by decide) (by decide) (Sp.chk_diff c1).2 (Sp.sqb_least s3).1 (Sp.sqb_norm s3 u3 v3 w3).1) (.cons rS .nil) ⟨rfl, bP, trivial⟩ ⟨rfl, bP, rfl, bP, trivial⟩ rS) <|
    .a 1 6 <| .nil _ _) ?_
  refine aw_sq 15342 15343 ?_
  refine aw_p 30685 (
    .a 3 6 <| .nil _ _) ?_
  refine aw_fl 61371 ?_
  refine aw_sk ?_
  refine then_normal ?_
  refine aw_p1 (
    .a 3 6 <| .p (does_ap 7) <| .a 1 8 <| .nil _ _) ?_
  refine block_normal ?_
  refine then_normal ?_
  refine aw_p1 (
    .a 2 8 <| .nil _ _) ?_
  refine then_normal ?_
  refine al_round ?_
  refine aw_p 239 (
    .a 1 8 <| .nil _ _) ?_
  refine aw_sq 478 479 ?_
  refine aw_tr 956 ?_
  refine aw_sk ?_
  refine then_normal ?_
  refine aw_sq 958 959 ?_
  refine aw_bl 1 1917 ?_
  refine aw_p 3835 (
    .a 5 8 <| .nil _ _) ?_
  refine aw_p 7671 (
    .a 4 8 <|
    .p (cF #[.tmp 18] #[30] [sV 2 4] 1 [2, 8] [(2, (pB (Sp.hob x2 y2 r2)))] [(2, (pB (Sp.hob x2 y2 r2))), (8, (pB (Sp.sqr x2 y2 r2)))] (sV 8 4) (norm_n (Sp.hob x2 y2 r2) (Sp.sqr x2 y2 r2) 3 4 (by simp [Sp.sqb, Sp.hob]) (by decide) (by decide) (by decide) (Sp.chk_diff c2).2 (Sp.sqb_least s2).2 (Sp.sqb_norm s2 u2 v2 w2).2) (.cons rS .nil) ⟨rfl, bP, trivial⟩ ⟨rfl, bP, rfl, bP, trivial⟩ rS) <|
    .a 1 9 <| .nil _ _) ?_
  refine aw_sq 15342 15343 ?_
  refine aw_p 30685 (
    .a 3 9 <| .nil _ _) ?_
  refine aw_tr 61370 ?_
  refine aw_p1 (
    .a 1 9 <|
    .p (does_val (v' := .slice (some ⟨8, 2, none⟩) 3 0) (does_slice (t := 30) (x := .tmp 23) (lo := some (.const (.int .i64 1))) (hi := none) (k := 8) (off := 0) (n := 4) (c := 0) (z := 2) (l := 1) (h := ((4 : Nat) : Int)) (m := 3) (b := (pB (Sp.sqr x2 y2 r2))) (by kernel_rfl) (by kernel_rfl) (by kernel_rfl) (by kernel_rfl) (by kernel_rfl) (by kernel_rfl) (by kernel_rfl) (by kernel_rfl) (by decide) (by decide) (by decide) (by decide)) (by kernel_rfl)) <|
    .p (cF (m := 1) (args0 := [.slice (some ⟨0, 2, none⟩) 3 0]) (pre0 := [(0, (pB (Sp.sqr x2 y2 r2)))]) (post0 := [(0, (pB (Sp.hol x2 y2 r2)))]) (v0 := .tuple #[]) #[.tmp 24] #[30] [.slice (some ⟨8, 2, none⟩) 3 0] 0 [8] [(8, (pB (Sp.sqr x2 y2 r2)))] [(8, (pB (Sp.hol x2 y2 r2)))] (.tuple #[]) (revtail_ok x2 y2 r2) (.cons rS .nil) ⟨rfl, bP, trivial⟩ ⟨rfl, bP, trivial⟩ rF) <| .nil _ _) ?_
  refine then_normal ?_
  refine aw_p1 (
    .a 3 9 <| .p (does_ap 10) <| .a 1 11 <| .nil _ _) ?_
  refine block_normal ?_
  refine then_normal ?_
  refine aw_p1 (
    .a 2 11 <| .nil _ _) ?_
  refine then_normal ?_
  refine al_round ?_
  refine aw_p 239 (
    .a 1 11 <| .nil _ _) ?_
  refine aw_sq 478 479 ?_
  refine aw_tr 956 ?_
  refine aw_sk ?_
  refine then_normal ?_
  refine aw_sq 958 959 ?_
  refine aw_bl 1 1917 ?_
  refine aw_p 3835 (
    .a 5 11 <| .nil _ _) ?_
  refine aw_p 7671 (
    .a 4 11 <|
    .p (cF #[.tmp 18] #[30] [sV 3 4] 1 [3, 11] [(3, (pB (Sp.sqb x1 y1 r1)))] [(3, (pB (Sp.sqb x1 y1 r1))), (11, (pB (Sp.sqr x1 y1 r1)))] (sV 11 4) (norm_n (Sp.sqb x1 y1 r1) (Sp.sqr x1 y1 r1) 3 4 (by simp [Sp.sqb, Sp.hob]) (by decide) (by decide) (by decide) (Sp.chk_diff c3).2 (Sp.sqb_least s1).1 (Sp.sqb_norm s1 u1 v1 w1).1) (.cons rS .nil) ⟨rfl, bP, trivial⟩ ⟨rfl, bP, rfl, bP, trivial⟩ rS) <|
    .a 1 12 <| .nil _ _) ?_
  refine aw_sq 15342 15343 ?_
  refine aw_p 30685 (
    .a 3 12 <| .nil _ _) ?_
  refine aw_fl 61371 ?_
  refine aw_sk ?_
  refine then_normal ?_
  refine aw_p1 (
    .a 3 12 <| .p (does_ap 13) <| .a 1 14 <| .nil _ _) ?_
  refine block_normal ?_
  refine then_normal ?_
  refine aw_p1 (
    .a 2 14 <| .nil _ _) ?_
  refine then_normal ?_
  refine al_round ?_
  refine aw_p 239 (
    .a 1 14 <| .nil _ _) ?_
  refine aw_sq 478 479 ?_
  refine aw_fl 957 ?_
  refine aw_ex 0 ?_
  refine then_exit ?_
  refine then_exit ?_
  refine block_exit ?_
  refine then_normal ?_
  refine aw_p 31 (
    .a 1 14 <|
    .p (cF #[.tmp 31, .func 66] #[25, 83] [sV 13 3, .func (.func 66) #[] #[]] 0 [13, 5, 8, 11] [(13, ⟨[sV 5 4, sV 8 4, sV 11 4], 30, true, 1⟩), (5, (pB (Sp.sqr x3 y3 r3))), (8, (pB (Sp.hol x2 y2 r2))), (11, (pB (Sp.sqr x1 y1 r1)))] [(13, ⟨[sV 11 4, sV 8 4, sV 5 4], 30, true, 1⟩), (5, (pB (Sp.sqr x3 y3 r3))), (8, (pB (Sp.hol x2 y2 r2))), (11, (pB (Sp.sqr x1 y1 r1)))] (.tuple #[]) (srtd_3 (Sp.sqr x3 y3 r3) (Sp.hol x2 y2 r2) (Sp.sqr x1 y1 r1) ⟨by simp [Sp.sqr, Sp.hol, Sp.sqb, Sp.hob], by simp [Sp.sqr, Sp.hol, Sp.sqb, Sp.hob]⟩ ⟨by simp [Sp.sqr, Sp.hol, Sp.sqb, Sp.hob], by simp [Sp.sqr, Sp.hol, Sp.sqb, Sp.hob]⟩ ⟨by simp [Sp.sqr, Sp.hol, Sp.sqb, Sp.hob], by simp [Sp.sqr, Sp.hol, Sp.sqb, Sp.hob]⟩ o21 o31 o32) (.cons rS (.cons rF .nil)) ⟨rfl, ⟨rfl, rfl, rfl, (.cons rS (.cons rS (.cons rS .nil)))⟩, rfl, bP, rfl, bP, rfl, bP, trivial⟩ ⟨rfl, ⟨rfl, rfl, rfl, (.cons rS (.cons rS (.cons rS .nil)))⟩, rfl, bP, rfl, bP, rfl, bP, trivial⟩ rF) <| .nil _ _) ?_
  refine aw_p 63 (
    .a 2 14 <| .nil _ _) ?_
  refine aw_r [(4, 13), (5, 11), (6, 8), (7, 5)] [(2, sV 13 3)] [(0, ⟨[sV 1 4, sV 2 4, sV 3 4], 30, true, 1⟩), (1, (pB (Sp.sqb x3 y3 r3))), (2, (pB (Sp.hob x2 y2 r2))), (3, (pB (Sp.sqb x1 y1 r1))), (13, ⟨[sV 11 4, sV 8 4, sV 5 4], 30, true, 1⟩), (11, (pB (Sp.sqr x1 y1 r1))), (8, (pB (Sp.hol x2 y2 r2))), (5, (pB (Sp.sqr x3 y3 r3)))] [(2, sV 4 3)] [(0, ⟨[sV 1 4, sV 2 4, sV 3 4], 30, true, 1⟩), (1, (pB (Sp.sqb x3 y3 r3))), (2, (pB (Sp.hob x2 y2 r2))), (3, (pB (Sp.sqb x1 y1 r1))), (4, ⟨[sV 5 4, sV 6 4, sV 7 4], 30, true, 1⟩), (5, (pB (Sp.sqr x1 y1 r1))), (6, (pB (Sp.hol x2 y2 r2))), (7, (pB (Sp.sqr x3 y3 r3)))] ?_ ⟨rfl, (rK rfl), trivial⟩ ⟨rfl, ⟨rfl, rfl, rfl, (.cons (rK rfl) (.cons (rK rfl) (.cons (rK rfl) .nil)))⟩, rfl, ⟨rfl, rfl, rfl, (.flats (flats_pair _))⟩, rfl, ⟨rfl, rfl, rfl, (.flats (flats_pair _))⟩, rfl, ⟨rfl, rfl, rfl, (.flats (flats_pair _))⟩, rfl, ⟨rfl, rfl, rfl, (.cons (rK rfl) (.cons (rK rfl) (.cons (rK rfl) .nil)))⟩, rfl, ⟨rfl, rfl, rfl, (.flats (flats_pair _))⟩, rfl, ⟨rfl, rfl, rfl, (.flats (flats_pair _))⟩, rfl, ⟨rfl, rfl, rfl, (.flats (flats_pair _))⟩, trivial⟩
  refine aw_rt ?_
  exact en_ret [sV 4 3] (by kernel_rfl)
end Go.Proofs.Ytndkhgfecnbmnaa.Am

namespace Go.Proofs.Ytndkhgfecnbmnaa.Am
open Go Go.Proofs
set_option maxRecDepth 100000
set_option maxHeartbeats 4000000
set_option linter.unusedVariables false
set_option linter.unusedSimpArgs false
theorem anormq_s2 (x1 y1 r1 x2 y2 r2 : Int) (s1 : 1 ≤ r1) (u1 : r1 ≤ 20) (v1 : -40 ≤ x1 - r1 ∧ x1 + r1 ≤ 40) (w1 : -40 ≤ y1 - r1 ∧ y1 + r1 ≤ 40) (s2 : 1 ≤ r2) (u2 : r2 ≤ 20) (v2 : -40 ≤ x2 - r2 ∧ x2 + r2 ≤ 40) (w2 : -40 ≤ y2 - r2 ∧ y2 + r2 ≤ 40) (c1 : Sp.chkF (Sp.sqb x2 y2 r2) = 0) (c2 : Sp.chkF (Sp.sqb x1 y1 r1) = 0) (F21 : Sp.Fit (Sp.sqb x1 y1 r1) (Sp.sqb x2 y2 r2) (-1) (-1)) (o21 : Sp.pcmp ((Sp.sqr x1 y1 r1).getD 0 (0, 0)).1 ((Sp.sqr x1 y1 r1).getD 0 (0, 0)).2 ((Sp.sqr x2 y2 r2).getD 0 (0, 0)).1 ((Sp.sqr x2 y2 r2).getD 0 (0, 0)).2 = -1) :
    AC Try.prog 22 3 ([sV 0 2]) [(0, ⟨[sV 1 4, sV 2 4], 30, true, 1⟩), (1, (pB (Sp.sqb x2 y2 r2))), (2, (pB (Sp.sqb x1 y1 r1)))] (sV 3 2) [(0, ⟨[sV 1 4, sV 2 4], 30, true, 1⟩), (1, (pB (Sp.sqb x2 y2 r2))), (2, (pB (Sp.sqb x1 y1 r1))), (3, ⟨[sV 4 4, sV 5 4], 30, true, 1⟩), (4, (pB (Sp.sqr x1 y1 r1))), (5, (pB (Sp.sqr x2 y2 r2)))] := by
  refine ac_in Try.func22 (fun w0 W pin => ?_)
  refine aw_p 3 (
    .a 1 3 <| .nil _ _) ?_
  refine aw_p 7 (
    .a 1 3 <| .nil _ _) ?_
  refine aw_sq 14 15 ?_
  refine aw_p 29 (
    .a 1 3 <|
    .p (cF #[.tmp 7] #[25] [sV 0 2] 1 [0, 1, 2, 3] [(0, ⟨[sV 1 4, sV 2 4], 30, true, 1⟩), (1, (pB (Sp.sqb x2 y2 r2))), (2, (pB (Sp.sqb x1 y1 r1)))] [(0, ⟨[sV 1 4, sV 2 4], 30, true, 1⟩), (1, (pB (Sp.sqb x2 y2 r2))), (2, (pB (Sp.sqb x1 y1 r1))), (3, ⟨[.int .i64 0, .int .i64 0], 3, true, 1⟩)] (sV 3 2) (adepth_s2 (Sp.sqb x2 y2 r2) (Sp.sqb x1 y1 r1) ⟨by simp [Sp.sqr, Sp.hol, Sp.sqb, Sp.hob], by simp [Sp.sqr, Sp.hol, Sp.sqb, Sp.hob]⟩ (Sp.few_sqb (m := 1000) (by omega) (by omega) (by omega)).1 ⟨by simp [Sp.sqr, Sp.hol, Sp.sqb, Sp.hob], by simp [Sp.sqr, Sp.hol, Sp.sqb, Sp.hob]⟩ (Sp.few_sqb (m := 1000) (by omega) (by omega) (by omega)).1 c1 c2 F21) (.cons rS .nil) ⟨rfl, ⟨rfl, rfl, rfl, (.cons rS (.cons rS .nil))⟩, rfl, bP, rfl, bP, trivial⟩ ⟨rfl, ⟨rfl, rfl, rfl, (.cons rS (.cons rS .nil))⟩, rfl, bP, rfl, bP, rfl, ⟨rfl, rfl, rfl, (.flats (by kernel_rfl))⟩, trivial⟩ rS) <|
    .a 2 4 <| .nil _ _) ?_
  refine aw_bl 0 59 ?_
  refine aw_lp 119 ?_
  refine al_round ?_
  refine aw_p 239 (
    .a 1 4 <| .nil _ _) ?_
  refine aw_sq 478 479 ?_
  refine aw_tr 956 ?_
  refine aw_sk ?_
  refine then_normal ?_
  refine aw_sq 958 959 ?_
  refine aw_bl 1 1917 ?_
  refine aw_p 3835 (
    .a 5 4 <| .nil _ _) ?_
  refine aw_p 7671 (
    .a 4 4 <|
    .p (cF #[.tmp 18] #[30] [sV 1 4] 1 [1, 4] [(1, (pB (Sp.sqb x2 y2 r2)))] [(1, (pB (Sp.sqb x2 y2 r2))), (4, (pB (Sp.sqr x2 y2 r2)))] (sV 4 4) (norm_n (Sp.sqb x2 y2 r2) (Sp.sqr x2 y2 r2) 3 4 (by simp [Sp.sqb, Sp.hob]) (by decide) (by decide) (by decide) (Sp.chk_diff c1).2 (Sp.sqb_least s2).1 (Sp.sqb_norm s2 u2 v2 w2).1) (.cons rS .nil) ⟨rfl, bP, trivial⟩ ⟨rfl, bP, rfl, bP, trivial⟩ rS) <|
    .a 1 5 <| .nil _ _) ?_
  refine aw_sq 15342 15343 ?_
  refine aw_p 30685 (
    .a 3 5 <| .nil _ _) ?_
  refine aw_fl 61371 ?_
  refine aw_sk ?_
  refine then_normal ?_
  refine aw_p1 (
    .a 3 5 <| .p (does_ap 6) <| .a 1 7 <| .nil _ _) ?_
  refine block_normal ?_
  refine then_normal ?_
  refine aw_p1 (
    .a 2 7 <| .nil _ _) ?_
  refine then_normal ?_
  refine al_round ?_
  refine aw_p 239 (
    .a 1 7 <| .nil _ _) ?_
  refine aw_sq 478 479 ?_
  refine aw_tr 956 ?_
  refine aw_sk ?_
  refine then_normal ?_
  refine aw_sq 958 959 ?_
  refine aw_bl 1 1917 ?_
  refine aw_p 3835 (
    .a 5 7 <| .nil _ _) ?_
  refine aw_p 7671 (
    .a 4 7 <|
    .p (cF #[.tmp 18] #[30] [sV 2 4] 1 [2, 7] [(2, (pB (Sp.sqb x1 y1 r1)))] [(2, (pB (Sp.sqb x1 y1 r1))), (7, (pB (Sp.sqr x1 y1 r1)))] (sV 7 4) (norm_n (Sp.sqb x1 y1 r1) (Sp.sqr x1 y1 r1) 3 4 (by simp [Sp.sqb, Sp.hob]) (by decide) (by decide) (by decide) (Sp.chk_diff c2).2 (Sp.sqb_least s1).1 (Sp.sqb_norm s1 u1 v1 w1).1) (.cons rS .nil) ⟨rfl, bP, trivial⟩ ⟨rfl, bP, rfl, bP, trivial⟩ rS) <|
    .a 1 8 <| .nil _ _) ?_
  refine aw_sq 15342 15343 ?_
  refine aw_p 30685 (
    .a 3 8 <| .nil _ _) ?_
  refine aw_fl 61371 ?_
  refine aw_sk ?_
  refine then_normal ?_
  refine aw_p1 (
    .a 3 8 <| .p (does_ap 9) <| .a 1 10 <| .nil _ _) ?_
  refine block_normal ?_
  refine then_normal ?_
  refine aw_p1 (
    .a 2 10 <| .nil _ _) ?_
  refine then_normal ?_
  refine al_round ?_
  refine aw_p 239 (
    .a 1 10 <| .nil _ _) ?_
  refine aw_sq 478 479 ?_
  refine aw_fl 957 ?_
  refine aw_ex 0 ?_
  refine then_exit ?_
  refine then_exit ?_
  refine block_exit ?_
  refine then_normal ?_
  refine aw_p 31 (
    .a 1 10 <|
    .p (cF #[.tmp 31, .func 66] #[25, 83] [sV 9 2, .func (.func 66) #[] #[]] 0 [9, 4, 7] [(9, ⟨[sV 4 4, sV 7 4], 30, true, 1⟩), (4, (pB (Sp.sqr x2 y2 r2))), (7, (pB (Sp.sqr x1 y1 r1)))] [(9, ⟨[sV 7 4, sV 4 4], 30, true, 1⟩), (4, (pB (Sp.sqr x2 y2 r2))), (7, (pB (Sp.sqr x1 y1 r1)))] (.tuple #[]) (srtd_2 (Sp.sqr x2 y2 r2) (Sp.sqr x1 y1 r1) ⟨by simp [Sp.sqr, Sp.hol, Sp.sqb, Sp.hob], by simp [Sp.sqr, Sp.hol, Sp.sqb, Sp.hob]⟩ ⟨by simp [Sp.sqr, Sp.hol, Sp.sqb, Sp.hob], by simp [Sp.sqr, Sp.hol, Sp.sqb, Sp.hob]⟩ o21) (.cons rS (.cons rF .nil)) ⟨rfl, ⟨rfl, rfl, rfl, (.cons rS (.cons rS .nil))⟩, rfl, bP, rfl, bP, trivial⟩ ⟨rfl, ⟨rfl, rfl, rfl, (.cons rS (.cons rS .nil))⟩, rfl, bP, rfl, bP, trivial⟩ rF) <| .nil _ _) ?_
  refine aw_p 63 (
    .a 2 10 <| .nil _ _) ?_
  refine aw_r [(3, 9), (4, 7), (5, 4)] [(2, sV 9 2)] [(0, ⟨[sV 1 4, sV 2 4], 30, true, 1⟩), (1, (pB (Sp.sqb x2 y2 r2))), (2, (pB (Sp.sqb x1 y1 r1))), (9, ⟨[sV 7 4, sV 4 4], 30, true, 1⟩), (7, (pB (Sp.sqr x1 y1 r1))), (4, (pB (Sp.sqr x2 y2 r2)))] [(2, sV 3 2)] [(0, ⟨[sV 1 4, sV 2 4], 30, true, 1⟩), (1, (pB (Sp.sqb x2 y2 r2))), (2, (pB (Sp.sqb x1 y1 r1))), (3, ⟨[sV 4 4, sV 5 4], 30, true, 1⟩), (4, (pB (Sp.sqr x1 y1 r1))), (5, (pB (Sp.sqr x2 y2 r2)))] ?_ ⟨rfl, (rK rfl), trivial⟩ ⟨rfl, ⟨rfl, rfl, rfl, (.cons (rK rfl) (.cons (rK rfl) .nil))⟩, rfl, ⟨rfl, rfl, rfl, (.flats (flats_pair _))⟩, rfl, ⟨rfl, rfl, rfl, (.flats (flats_pair _))⟩, rfl, ⟨rfl, rfl, rfl, (.cons (rK rfl) (.cons (rK rfl) .nil))⟩, rfl, ⟨rfl, rfl, rfl, (.flats (flats_pair _))⟩, rfl, ⟨rfl, rfl, rfl, (.flats (flats_pair _))⟩, trivial⟩
  refine aw_rt ?_
  exact en_ret [sV 3 2] (by kernel_rfl)
end Go.Proofs.Ytndkhgfecnbmnaa.Am

namespace Go.Proofs.Ytndkhgfecnbmnaa.Am
open Go Go.Proofs
set_option maxRecDepth 100000
set_option maxHeartbeats 4000000
set_option linter.unusedVariables false
set_option linter.unusedSimpArgs false
theorem areaNormsV_0 (xs : List Int) (u v r : Int) (u0 : -15 ≤ u) (u1 : u ≤ 14) (v0 : -15 ≤ v) (v1 : v ≤ 14) (r0 : 6 ≤ r) (r1 : r ≤ 15)  (hm : AC Try.prog 9 1 [.slice (some ⟨0, 0, none⟩) xs.length 0] [(0, ⟨(xs.map i64v), 3, false, 1⟩)] (.slice (some ⟨1, 0, none⟩) 1 0) [(1, ⟨[sV 2 4], 30, true, 1⟩), (2, (pB (Sp.sqr u v r)))]) (x px py : Int) (hx : AC Try.prog 10 0 [.int .i64 x] [] (.agg #[.int .i64 px, .int .i64 py]) []) (bpx : -40 ≤ px) (cpx : px ≤ 40) (bpy : -40 ≤ py) (cpy : py ≤ 40) : AC Try.prog 5 1 [.slice (some ⟨0, 0, none⟩) xs.length 0, .int .i64 x] [(0, ⟨(xs.map i64v), 3, false, 1⟩)] (.bool true) [] := by
  have p0 := Sp.sq_pos (r := r) (by omega)
  exact areaNorms_0 xs (Sp.sqr u v r) ⟨by simp [Sp.sqr, Sp.hol], by simp [Sp.sqr, Sp.hol]⟩ (Sp.few_sqr (m := 1000) (by omega) (by omega) (by omega)).1 (Sp.sq_good (by omega) (by omega) (by omega) (by omega)).1  hm (anorm_n1 u v r (by omega) (by omega) (by omega) (by omega) (Sp.sq_good (by omega) (by omega) (by omega) (by omega)).1  ) (anormq_n1 u v r (by omega) (by omega) (by omega) (by omega) (Sp.sqb_good (by omega) (by omega) (by omega) (by omega)).1  ) x px py hx bpx cpx bpy cpy (8 * (r * r)) (Sp.sq_area (by omega) (by omega) (by omega) (by omega)).1 (Sp.sq_bd (r := r) (by omega) (by omega)).1 (by rw [Sp.mx_pp (a := 8 * (r * r)) (by omega)]; omega)
theorem areaNormsV_1 (xs : List Int) (u v r k : Int) (u0 : -15 ≤ u) (u1 : u ≤ 14) (v0 : -15 ≤ v) (v1 : v ≤ 14) (r0 : 6 ≤ r) (r1 : r ≤ 15) (k0 : 1 ≤ k) (k1 : k ≤ r - 2) (hm : AC Try.prog 9 1 [.slice (some ⟨0, 0, none⟩) xs.length 0] [(0, ⟨(xs.map i64v), 3, false, 1⟩)] (.slice (some ⟨1, 0, none⟩) 2 0) [(1, ⟨[sV 2 4, sV 3 4], 30, true, 1⟩), (2, (pB (Sp.sqr u v r))), (3, (pB (Sp.hol u v k)))]) (x px py : Int) (hx : AC Try.prog 10 0 [.int .i64 x] [] (.agg #[.int .i64 px, .int .i64 py]) []) (bpx : -40 ≤ px) (cpx : px ≤ 40) (bpy : -40 ≤ py) (cpy : py ≤ 40) : AC Try.prog 5 1 [.slice (some ⟨0, 0, none⟩) xs.length 0, .int .i64 x] [(0, ⟨(xs.map i64v), 3, false, 1⟩)] (.bool true) [] := by
  have p0 := Sp.sq_pos (r := r) (by omega); have p1 := Sp.sq_pos (r := k) (by omega)
  have pd := Sp.area_pos2 (r := r) (k := k) (by omega) (by omega)
  exact areaNorms_1 xs (Sp.sqr u v r) (Sp.hol u v k) ⟨by simp [Sp.sqr, Sp.hol], by simp [Sp.sqr, Sp.hol]⟩ (Sp.few_sqr (m := 1000) (by omega) (by omega) (by omega)).1 ⟨by simp [Sp.sqr, Sp.hol], by simp [Sp.sqr, Sp.hol]⟩ (Sp.few_sqr (m := 1000) (by omega) (by omega) (by omega)).2 (Sp.sq_good (by omega) (by omega) (by omega) (by omega)).1 (Sp.sq_good (by omega) (by omega) (by omega) (by omega)).2 (Sp.fit_hs (by omega) (by omega) (by omega) (by omega) (by omega) (by omega)) hm (anorm_n2 u v r u v k (by omega) (by omega) (by omega) (by omega) (by omega) (by omega) (by omega) (by omega) (Sp.sq_good (by omega) (by omega) (by omega) (by omega)).1 (Sp.sq_good (by omega) (by omega) (by omega) (by omega)).2 (Sp.fit_hs (by omega) (by omega) (by omega) (by omega) (by omega) (by omega)) (Sp.pc_1 (by simp only [Sp.sqr, Sp.hol, List.getD_cons_zero]; omega))) (anormq_n2 u v r u v k (by omega) (by omega) (by omega) (by omega) (by omega) (by omega) (by omega) (by omega) (Sp.sqb_good (by omega) (by omega) (by omega) (by omega)).2 (Sp.sqb_good (by omega) (by omega) (by omega) (by omega)).1 (Sp.fit_rhs (by omega) (by omega) (by omega) (by omega) (by omega) (by omega)) (Sp.pc_m (by simp only [Sp.sqr, Sp.hol, List.getD_cons_zero]; omega))) x px py hx bpx cpx bpy cpy (8 * (r * r)) (-(8 * (k * k))) (Sp.sq_area (by omega) (by omega) (by omega) (by omega)).1 (Sp.sq_bd (r := r) (by omega) (by omega)).1 (Sp.sq_area (by omega) (by omega) (by omega) (by omega)).2 (Sp.sq_bd (r := k) (by omega) (by omega)).2 (by rw [Sp.mx_pp (a := 8 * (r * r)) (by omega), Sp.mx_nn (a := 8 * (k * k)) (by omega)]; omega)
theorem areaNormsV_2 (xs : List Int) (u v r k j : Int) (u0 : -15 ≤ u) (u1 : u ≤ 14) (v0 : -15 ≤ v) (v1 : v ≤ 14) (r0 : 6 ≤ r) (r1 : r ≤ 15) (k0 : 3 ≤ k) (k1 : k ≤ r - 2) (j0 : 1 ≤ j) (j1 : j ≤ k - 2) (hm : AC Try.prog 9 1 [.slice (some ⟨0, 0, none⟩) xs.length 0] [(0, ⟨(xs.map i64v), 3, false, 1⟩)] (.slice (some ⟨1, 0, none⟩) 3 0) [(1, ⟨[sV 2 4, sV 3 4, sV 4 4], 30, true, 1⟩), (2, (pB (Sp.sqr u v r))), (3, (pB (Sp.hol u v k))), (4, (pB (Sp.sqr u v j)))]) (x px py : Int) (hx : AC Try.prog 10 0 [.int .i64 x] [] (.agg #[.int .i64 px, .int .i64 py]) []) (bpx : -40 ≤ px) (cpx : px ≤ 40) (bpy : -40 ≤ py) (cpy : py ≤ 40) : AC Try.prog 5 1 [.slice (some ⟨0, 0, none⟩) xs.length 0, .int .i64 x] [(0, ⟨(xs.map i64v), 3, false, 1⟩)] (.bool true) [] := by
  have p0 := Sp.sq_pos (r := r) (by omega); have p1 := Sp.sq_pos (r := k) (by omega); have p2 := Sp.sq_pos (r := j) (by omega)
  have pd := Sp.area_pos2 (r := r) (k := k) (by omega) (by omega)
  exact areaNorms_2 xs (Sp.sqr u v r) (Sp.hol u v k) (Sp.sqr u v j) ⟨by simp [Sp.sqr, Sp.hol], by simp [Sp.sqr, Sp.hol]⟩ (Sp.few_sqr (m := 1000) (by omega) (by omega) (by omega)).1 ⟨by simp [Sp.sqr, Sp.hol], by simp [Sp.sqr, Sp.hol]⟩ (Sp.few_sqr (m := 1000) (by omega) (by omega) (by omega)).2 ⟨by simp [Sp.sqr, Sp.hol], by simp [Sp.sqr, Sp.hol]⟩ (Sp.few_sqr (m := 1000) (by omega) (by omega) (by omega)).1 (Sp.sq_good (by omega) (by omega) (by omega) (by omega)).1 (Sp.sq_good (by omega) (by omega) (by omega) (by omega)).2 (Sp.sq_good (by omega) (by omega) (by omega) (by omega)).1 (Sp.fit_hs (by omega) (by omega) (by omega) (by omega) (by omega) (by omega)) (Sp.fit_ss (by omega) (by omega) (by omega) (by omega) (by omega) (by omega)) (Sp.fit_sh (by omega) (by omega) (by omega) (by omega) (by omega) (by omega)) hm (anorm_n3 u v r u v k u v j (by omega) (by omega) (by omega) (by omega) (by omega) (by omega) (by omega) (by omega) (by omega) (by omega) (by omega) (by omega) (Sp.sq_good (by omega) (by omega) (by omega) (by omega)).1 (Sp.sq_good (by omega) (by omega) (by omega) (by omega)).2 (Sp.sq_good (by omega) (by omega) (by omega) (by omega)).1 (Sp.fit_hs (by omega) (by omega) (by omega) (by omega) (by omega) (by omega)) (Sp.fit_ss (by omega) (by omega) (by omega) (by omega) (by omega) (by omega)) (Sp.fit_sh (by omega) (by omega) (by omega) (by omega) (by omega) (by omega)) (Sp.pc_1 (by simp only [Sp.sqr, Sp.hol, List.getD_cons_zero]; omega)) (Sp.pc_1 (by simp only [Sp.sqr, Sp.hol, List.getD_cons_zero]; omega))) (anormq_n3 u v r u v k u v j (by omega) (by omega) (by omega) (by omega) (by omega) (by omega) (by omega) (by omega) (by omega) (by omega) (by omega) (by omega) (Sp.sqb_good (by omega) (by omega) (by omega) (by omega)).1 (Sp.sqb_good (by omega) (by omega) (by omega) (by omega)).2 (Sp.sqb_good (by omega) (by omega) (by omega) (by omega)).1 (Sp.fit_rsh (by omega) (by omega) (by omega) (by omega) (by omega) (by omega)) (Sp.fit_rss (by omega) (by omega) (by omega) (by omega) (by omega) (by omega)) (Sp.fit_rhs (by omega) (by omega) (by omega) (by omega) (by omega) (by omega)) (Sp.pc_m (by simp only [Sp.sqr, Sp.hol, List.getD_cons_zero]; omega)) (Sp.pc_m (by simp only [Sp.sqr, Sp.hol, List.getD_cons_zero]; omega)) (Sp.pc_m (by simp only [Sp.sqr, Sp.hol, List.getD_cons_zero]; omega))) x px py hx bpx cpx bpy cpy (8 * (r * r)) (-(8 * (k * k))) (8 * (j * j)) (Sp.sq_area (by omega) (by omega) (by omega) (by omega)).1 (Sp.sq_bd (r := r) (by omega) (by omega)).1 (Sp.sq_area (by omega) (by omega) (by omega) (by omega)).2 (Sp.sq_bd (r := k) (by omega) (by omega)).2 (Sp.sq_area (by omega) (by omega) (by omega) (by omega)).1 (Sp.sq_bd (r := j) (by omega) (by omega)).1 (by rw [Sp.mx_pp (a := 8 * (r * r)) (by omega), Sp.mx_nn (a := 8 * (k * k)) (by omega), Sp.mx_pp (a := 8 * (j * j)) (by omega)]; omega)
theorem areaNormsV_3 (xs : List Int) (u v r d : Int) (u0 : -15 ≤ u) (u1 : u ≤ 14) (v0 : -15 ≤ v) (v1 : v ≤ 14) (r0 : 6 ≤ r) (r1 : r ≤ 15) (d0 : 0 ≤ d) (d1 : d ≤ 2) (hm : AC Try.prog 9 1 [.slice (some ⟨0, 0, none⟩) xs.length 0] [(0, ⟨(xs.map i64v), 3, false, 1⟩)] (.slice (some ⟨1, 0, none⟩) 2 0) [(1, ⟨[sV 2 4, sV 3 4], 30, true, 1⟩), (2, (pB (Sp.sqr u v r))), (3, (pB (Sp.sqr (u + r + 3 + d) v (2))))]) (x px py : Int) (hx : AC Try.prog 10 0 [.int .i64 x] [] (.agg #[.int .i64 px, .int .i64 py]) []) (bpx : -40 ≤ px) (cpx : px ≤ 40) (bpy : -40 ≤ py) (cpy : py ≤ 40) : AC Try.prog 5 1 [.slice (some ⟨0, 0, none⟩) xs.length 0, .int .i64 x] [(0, ⟨(xs.map i64v), 3, false, 1⟩)] (.bool true) [] := by
  have p0 := Sp.sq_pos (r := r) (by omega); have p1 := Sp.sq_pos (r := 2) (by omega)
  exact areaNorms_3 xs (Sp.sqr u v r) (Sp.sqr (u + r + 3 + d) v (2)) ⟨by simp [Sp.sqr, Sp.hol], by simp [Sp.sqr, Sp.hol]⟩ (Sp.few_sqr (m := 1000) (by omega) (by omega) (by omega)).1 ⟨by simp [Sp.sqr, Sp.hol], by simp [Sp.sqr, Sp.hol]⟩ (Sp.few_sqr (m := 1000) (by omega) (by omega) (by omega)).1 (Sp.sq_good (by omega) (by omega) (by omega) (by omega)).1 (Sp.sq_good (by omega) (by omega) (by omega) (by omega)).1 (Sp.fit_by (by omega) (by omega) (by omega) (by omega) (by omega) (by omega)) hm (anorm_s2 u v r (u + r + 3 + d) v (2) (by omega) (by omega) (by omega) (by omega) (by omega) (by omega) (by omega) (by omega) (Sp.sq_good (by omega) (by omega) (by omega) (by omega)).1 (Sp.sq_good (by omega) (by omega) (by omega) (by omega)).1 (Sp.fit_by (by omega) (by omega) (by omega) (by omega) (by omega) (by omega)) (Sp.pc_1 (by simp only [Sp.sqr, Sp.hol, List.getD_cons_zero]; omega))) (anormq_s2 u v r (u + r + 3 + d) v (2) (by omega) (by omega) (by omega) (by omega) (by omega) (by omega) (by omega) (by omega) (Sp.sqb_good (by omega) (by omega) (by omega) (by omega)).1 (Sp.sqb_good (by omega) (by omega) (by omega) (by omega)).1 (Sp.fit_rby (by omega) (by omega) (by omega) (by omega) (by omega) (by omega)) (Sp.pc_m (by simp only [Sp.sqr, Sp.hol, List.getD_cons_zero]; omega))) x px py hx bpx cpx bpy cpy (8 * (r * r)) (8 * ((2) * (2))) (Sp.sq_area (by omega) (by omega) (by omega) (by omega)).1 (Sp.sq_bd (r := r) (by omega) (by omega)).1 (Sp.sq_area (by omega) (by omega) (by omega) (by omega)).1 (Sp.sq_bd (r := 2) (by omega) (by omega)).1 (by rw [Sp.mx_pp (a := 8 * (r * r)) (by omega), Sp.mx_pp (a := 8 * ((2) * (2))) (by omega)]; omega)
theorem areaNorms_walk (xs : List Int) (x px py : Int) (hx : AC Try.prog 10 0 [.int .i64 x] [] (.agg #[.int .i64 px, .int .i64 py]) []) (bpx : -40 ≤ px) (cpx : px ≤ 40) (bpy : -40 ≤ py) (cpy : py ≤ 40) : AC Try.prog 5 1 [.slice (some ⟨0, 0, none⟩) xs.length 0, .int .i64 x] [(0, ⟨(xs.map i64v), 3, false, 1⟩)] (.bool true) [] := by
  have g0 := Sp.emod_bd (xs.getD 0 0) (n := 30) (by decide)
  have g1 := Sp.emod_bd (xs.getD 1 0) (n := 30) (by decide)
  have g2 := Sp.emod_bd (xs.getD 2 0) (n := 10) (by decide)
  have g3 := Sp.emod_bd (xs.getD 3 0) (n := 4) (by decide)
  rcases (show xs.getD 3 0 % 4 = 0 ∨ xs.getD 3 0 % 4 = 1 ∨ xs.getD 3 0 % 4 = 2 ∨ xs.getD 3 0 % 4 = 3 by omega) with h | h | h | h
  · exact areaNormsV_0 xs (xs.getD 0 0 % 30 - 15) (xs.getD 1 0 % 30 - 15) (6 + xs.getD 2 0 % 10) (by omega) (by omega) (by omega) (by omega) (by omega) (by omega) (marea_0 xs h) x px py hx bpx cpx bpy cpy
  · have e4 := Sp.emod_bd (xs.getD 4 0) (n := (6 + xs.getD 2 0 % 10) - 2) (by omega); exact areaNormsV_1 xs (xs.getD 0 0 % 30 - 15) (xs.getD 1 0 % 30 - 15) (6 + xs.getD 2 0 % 10) (1 + xs.getD 4 0 % ((6 + xs.getD 2 0 % 10) - 2)) (by omega) (by omega) (by omega) (by omega) (by omega) (by omega) (by omega) (by omega) (marea_1 xs h) x px py hx bpx cpx bpy cpy
  · have e4 := Sp.emod_bd (xs.getD 4 0) (n := (6 + xs.getD 2 0 % 10) - 4) (by omega); have e5 := Sp.emod_bd (xs.getD 5 0) (n := 3 + xs.getD 4 0 % ((6 + xs.getD 2 0 % 10) - 4) - 2) (by omega); exact areaNormsV_2 xs (xs.getD 0 0 % 30 - 15) (xs.getD 1 0 % 30 - 15) (6 + xs.getD 2 0 % 10) (3 + xs.getD 4 0 % ((6 + xs.getD 2 0 % 10) - 4)) (1 + xs.getD 5 0 % ((3 + xs.getD 4 0 % ((6 + xs.getD 2 0 % 10) - 4)) - 2)) (by omega) (by omega) (by omega) (by omega) (by omega) (by omega) (by omega) (by omega) (by omega) (by omega) (marea_2 xs h) x px py hx bpx cpx bpy cpy
  · have e4 := Sp.emod_bd (xs.getD 4 0) (n := 3) (by decide); exact areaNormsV_3 xs (xs.getD 0 0 % 30 - 15) (xs.getD 1 0 % 30 - 15) (6 + xs.getD 2 0 % 10) (xs.getD 4 0 % 3) (by omega) (by omega) (by omega) (by omega) (by omega) (by omega) (by omega) (by omega) (marea_3 xs h) x px py hx bpx cpx bpy cpy
end Go.Proofs.Ytndkhgfecnbmnaa.Am
