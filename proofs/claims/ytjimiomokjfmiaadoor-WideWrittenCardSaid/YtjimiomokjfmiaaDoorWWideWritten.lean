/-
  The walk of the law WideWritten.
-/
import Derived.Test.YtjimiomokjfmiaaDoorProg
import Derived.Test.YtjimiomokjfmiaaDoorAm16
import Derived.Test.YtjimiomokjfmiaaDoorNu2
import Derived.Test.YtjimiomokjfmiaaDoorWd5
import Derived.Test.YtjimiomokjfmiaaDoorTx3
namespace Go.Proofs.YtjimiomokjfmiaaDoor.Am
open Go Go.Proofs
set_option maxRecDepth 100000
set_option maxHeartbeats 4000000
set_option linter.unusedVariables false
set_option linter.unusedSimpArgs false

theorem wideWritten_walk (a b : Int) (zla : -170141183460469231731687303715884105728 ≤ a) (zua : a < 170141183460469231731687303715884105728) (zlb : -170141183460469231731687303715884105728 ≤ b) (zub : b < 170141183460469231731687303715884105728) :
    AC Tryd.prog 4 0 ([.agg #[.int .i64 (Sp.wh a), .int .u64 (Sp.wl a)], .agg #[.int .i64 (Sp.wh b), .int .u64 (Sp.wl b)]]) [] (.bool true) [] := by
  have hrd := Sp.rd_numT zla zua; have hnl := Sp.numT_len (x := a) (by omega) (by omega); have cb := Sp.cmp_bd b a; have qa := Sp.qdw_facts a; have qb := Sp.qdw_facts b
  refine ac_in Tryd.func4 (fun w0 W pin => ?_)
  refine aw_p 3 (
    .a 3 1 <| .nil _ _) ?_
  refine aw_sq 6 7 ?_
  refine aw_p 13 (
    .p (does_c (terrkeep1_wideBegun_ok)) <| .a 1 3 <| .nil _ _) ?_
  refine aw_fl 27 ?_
  refine aw_sk ?_
  refine then_normal ?_
  refine aw_p 15 (
    .a 1 3 <| .p (does_c (wtext_ok a (by omega) (by omega))) <| .p (does_c ((by have q := rread_ok (Sp.numT a) (by omega); rw [hrd.1, hrd.2] at q; exact q))) <| .a 6 3 <| .nil _ _) ?_
  refine aw_sq 30 31 ?_
  refine aw_d 61 (
    .a 5 4 <| .p (does_e false ((show (!(((Sp.wh a) == (Sp.wh a)) && (((Sp.wl a) == (Sp.wl a)) && true))) = false from by simp))) <| .a 4 4 <| .p (does_c (wcmp_ok a b (by omega) (by omega) (by omega) (by omega))) <| .a 2 4 <| .p (does_c (wcmp_ok b a (by omega) (by omega) (by omega) (by omega))) <|
    .p (does_i (0 - (Sp.cmp b a)) (wrap_i64 (by omega) (by omega)) .i64) <| .p (does_b false ((show ((Sp.cmp a b) != (0 - (Sp.cmp b a))) = false from (by rw [bne_eq_false_iff_eq]; unfold Sp.cmp; (repeat' split) <;> omega)))) <| .a 4 4 <|
    .p (does_c (wcmp_ok a b (by omega) (by omega) (by omega) (by omega))) <| .a 3 4 <| .p (does_e (decide (a = b)) (Sp.w_eq zla zua zlb zub)) <| .p (does_b false ((show (!(((Sp.cmp a b) == 0) == (decide (a = b)))) = false from (by rw [Sp.cmp_eqd]; simp)))) <| .a 1 4 <| .nil _ _) ?_
  refine aw_w [(2, .pointer (some ⟨1, 0, none⟩)), (3, .pointer (some ⟨2, 0, none⟩)), (4, .bool false), (43, .bool false)] [(1, ⟨[.int .i64 (Sp.wh a), .int .u64 (Sp.wl a)], 24, true, 2⟩), (2, ⟨[.int .i64 (Sp.wh b), .int .u64 (Sp.wl b)], 24, true, 2⟩)] ?_
  refine aw_fl 123 ?_
  refine aw_sk ?_
  refine then_normal ?_
  refine aw_d 63 (
    .a 2 3 <| .p (does_i (Sp.wh (Sp.qdw a)) ((show (IntKind.wrap .i64 (Int.tdiv (Sp.wh a) 4)) = (Sp.wh (Sp.qdw a)) from (by rw [← qa.1]; exact wrap_i64 (Sp.wh_bd _).1 (Sp.wh_bd _).2))) .i64) <| .a 5 3 <|
    .p (does_i (Sp.wh (Sp.qdw b)) ((show (IntKind.wrap .i64 (Int.tdiv (Sp.wh b) 4)) = (Sp.wh (Sp.qdw b)) from (by rw [← qb.1]; exact wrap_i64 (Sp.wh_bd _).1 (Sp.wh_bd _).2))) .i64) <| .a 7 3 <| .nil _ _) ?_
  refine aw_w [(4, .bool false), (7, .pointer (some ⟨3, 0, none⟩)), (8, .pointer (some ⟨4, 0, none⟩))] [(3, ⟨[.int .i64 (Sp.wh (Sp.qdw a)), .int .u64 (Sp.wl (Sp.qdw a))], 24, true, 2⟩), (4, ⟨[.int .i64 (Sp.wh (Sp.qdw b)), .int .u64 (Sp.wl (Sp.qdw b))], 24, true, 2⟩)] ?_ (by (try rw [qa.2.1]); (try rw [qb.2.1]); kernel_rfl) (by (try rw [qa.2.1]); (try rw [qb.2.1]); kernel_rfl)
  refine aw_d 127 (
    .a 2 5 <| .p (does_c (wcmp_ok (Sp.qdw a) (Sp.qdw b) (by omega) (by omega) (by omega) (by omega))) <| .a 2 5 <| .p (does_c (wsub_ok (Sp.qdw a) (Sp.qdw b))) <| .p (does_c (wsign_ok ((Sp.qdw a) - (Sp.qdw b)) (by omega) (by omega))) <|
    .p (does_b true ((show ((Sp.cmp (Sp.qdw a) (Sp.qdw b)) == (Sp.cmp ((Sp.qdw a) - (Sp.qdw b)) 0)) = true from (by rw [beq_iff_eq]; unfold Sp.cmp; (repeat' split) <;> omega)))) <| .a 1 5 <| .nil _ _) ?_
  refine aw_w [(4, .bool true)] [] ?_
  refine aw_rt ?_
  exact en_ret [.bool true] (by kernel_rfl)

theorem wideWritten_law (h0 l0 : Int) (H0 : -9223372036854775808 ≤ h0 ∧ h0 ≤ 9223372036854775807) (L0 : 0 ≤ l0 ∧ l0 ≤ 18446744073709551615) (h1 l1 : Int) (H1 : -9223372036854775808 ≤ h1 ∧ h1 ≤ 9223372036854775807) (L1 : 0 ≤ l1 ∧ l1 ≤ 18446744073709551615)  : AC Tryd.prog 4 0 [.agg #[.int .i64 h0, .int .u64 l0], .agg #[.int .i64 h1, .int .u64 l1]] [] (.bool true) [] := by
  obtain ⟨p0, q0, r0, z0⟩ := Sp.wh_raw H0 L0
  obtain ⟨p1, q1, r1, z1⟩ := Sp.wh_raw H1 L1
  have h := wideWritten_walk (h0 * 18446744073709551616 + l0) (h1 * 18446744073709551616 + l1) r0 z0 r1 z1 
  rw [p0, q0, p1, q1] at h
  exact h

end Go.Proofs.YtjimiomokjfmiaaDoor.Am
