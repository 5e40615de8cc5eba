/-
  The walk of the law WideAdds.
-/
import Derived.Test.YtjimiomokjfmiaaProg
import Derived.Test.YtjimiomokjfmiaaAm13
import Derived.Test.YtjimiomokjfmiaaWd4
namespace Go.Proofs.Ytjimiomokjfmiaa.Am
open Go Go.Proofs
set_option maxRecDepth 100000
set_option maxHeartbeats 4000000
set_option linter.unusedVariables false
set_option linter.unusedSimpArgs false

theorem wideAdds_walk (x : Int) (zlx : -170141183460469231731687303715884105728 ≤ x) (zux : x < 170141183460469231731687303715884105728) (y : Int) (zly : -170141183460469231731687303715884105728 ≤ y) (zuy : y < 170141183460469231731687303715884105728) (n : Int) (zln : -9223372036854775808 ≤ n) (zun : n ≤ 9223372036854775807) (m : Int) (zlm : -9223372036854775808 ≤ m) (zum : m ≤ 9223372036854775807) :
    AC Try.prog 4 0 ([.agg #[.int .i64 (Sp.wh x), .int .u64 (Sp.wl x)], .agg #[.int .i64 (Sp.wh y), .int .u64 (Sp.wl y)], .int .i64 n, .int .i64 m]) [] (.bool true) [] := by
  have p0 := Sp.mul_bd (a := n) (b := m) (A := 9223372036854775808) (B := 9223372036854775808) (by omega) (by omega) (by omega) (by omega)
  refine ac_in Try.func4 (fun w0 W pin => ?_)
  refine aw_p 3 (
    .a 3 1 <| .nil _ _) ?_
  refine aw_d 7 (
    .a 1 3 <| .p (does_c (lwide_ok x (by omega) (by omega))) <| .a 1 3 <| .p (does_c (lwide_ok y (by omega) (by omega))) <| .a 4 3 <| .nil _ _) ?_
  refine aw_d 15 (
    .p (does_c (terrlaw1_wideBegun_ok)) <| .a 2 5 <| .p (does_c (wof_ok n (by omega) (by omega))) <| .a 1 5 <| .p (does_c (llof_ok n (by omega) (by omega))) <| .p (does_c (lwd_ok n)) <| .p (does_e true ((show (((Sp.wh n) == (Sp.wh n)) && (((Sp.wl n) == (Sp.wl n)) && true)) = true from by simp))) <|
    .a 4 5 <| .p (does_c (wmul_ok n m (by omega) (by omega) (by omega) (by omega))) <| .a 1 5 <| .p (does_c (llof_ok n (by omega) (by omega))) <| .a 1 5 <| .p (does_c (llof_ok m (by omega) (by omega))) <| .p (does_c (ltimes_ok n m)) <| .p (does_c (lwd_ok (n * m))) <|
    .p (does_e true ((show (((Sp.wh (n * m)) == (Sp.wh (n * m))) && (((Sp.wl (n * m)) == (Sp.wl (n * m))) && true)) = true from by simp))) <| .a 4 5 <| .p (does_c (wadd_ok x y)) <| .a 2 5 <| .p (does_c (lplus_ok x y)) <| .p (does_c (lwd_ok (x + y))) <|
    .p (does_e true ((show (((Sp.wh (x + y)) == (Sp.wh (x + y))) && (((Sp.wl (x + y)) == (Sp.wl (x + y))) && true)) = true from by simp))) <| .a 4 5 <| .p (does_c (wsub_ok x y)) <| .a 2 5 <| .p (does_c (lminus_ok x y)) <| .p (does_c (lwd_ok (x - y))) <|
    .p (does_e true ((show (((Sp.wh (x - y)) == (Sp.wh (x - y))) && (((Sp.wl (x - y)) == (Sp.wl (x - y))) && true)) = true from by simp))) <| .a 3 5 <| .p (does_c (wneg_ok x)) <| .a 1 5 <| .p (does_c (lneg_ok x)) <| .p (does_c (lwd_ok (-x))) <|
    .p (does_e true ((show (((Sp.wh (-x)) == (Sp.wh (-x))) && (((Sp.wl (-x)) == (Sp.wl (-x))) && true)) = true from by simp))) <| .a 4 5 <| .p (does_c (wcmp_ok x y (by omega) (by omega) (by omega) (by omega))) <| .a 2 5 <| .p (does_c (lminus_ok x y)) <|
    .p (does_c (lsign_ok (x - y) (by omega) (by omega))) <| .p (does_b true ((show ((Sp.cmp x y) == (Sp.sgn (x - y))) = true from (by rw [beq_iff_eq]; first | exact Sp.sgn_sub _ _ | exact Sp.sgn_cmp0 _)))) <| .a 3 5 <| .p (does_c (wsign_ok x (by omega) (by omega))) <| .a 1 5 <|
    .p (does_c (lsign_ok x (by omega) (by omega))) <| .p (does_b true ((show ((Sp.cmp x 0) == (Sp.sgn x)) = true from (by rw [beq_iff_eq]; first | exact Sp.sgn_sub _ _ | exact Sp.sgn_cmp0 _)))) <| .a 2 5 <| .nil _ _) ?_
  refine aw_w [(0, .agg #[.int .i64 (Sp.wh x), .int .u64 (Sp.wl x)]), (1, .agg #[.int .i64 (Sp.wh y), .int .u64 (Sp.wl y)]), (4, .pointer (some ⟨1, 0, none⟩)), (5, .pointer (some ⟨2, 0, none⟩)), (8, .bool true), (9, .pointer (some ⟨3, 0, none⟩)), (10, .pointer (some ⟨4, 0, none⟩)), (11, .agg #[.int .i64 (Sp.wh x), .int .u64 (Sp.wl x)]), (12, lval x), (13, .agg #[.int .i64 (Sp.wh y), .int .u64 (Sp.wl y)]), (14, lval y)] [(1, ⟨[.int .i64 (Sp.wh x), .int .u64 (Sp.wl x)], 27, true, 2⟩), (2, ⟨[.int .i64 (Sp.wh y), .int .u64 (Sp.wl y)], 27, true, 2⟩), (3, ⟨(lds x), 29, true, 1⟩), (4, ⟨(lds y), 29, true, 1⟩)] ?_
  refine aw_rt ?_
  exact en_ret [.bool true] (by kernel_rfl)


theorem wideAdds_law (h0 l0 : Int) (H0 : -9223372036854775808 ≤ h0 ∧ h0 ≤ 9223372036854775807) (L0 : 0 ≤ l0 ∧ l0 ≤ 18446744073709551615) (h1 l1 : Int) (H1 : -9223372036854775808 ≤ h1 ∧ h1 ≤ 9223372036854775807) (L1 : 0 ≤ l1 ∧ l1 ≤ 18446744073709551615) (n : Int) (Zn : -9223372036854775808 ≤ n ∧ n ≤ 9223372036854775807) (m : Int) (Zm : -9223372036854775808 ≤ m ∧ m ≤ 9223372036854775807) : AC Try.prog 4 0 [.agg #[.int .i64 h0, .int .u64 l0], .agg #[.int .i64 h1, .int .u64 l1], .int .i64 n, .int .i64 m] [] (.bool true) [] := by
  obtain ⟨p0, q0, r0, s0⟩ := Sp.wh_raw H0 L0
  obtain ⟨p1, q1, r1, s1⟩ := Sp.wh_raw H1 L1
  have h := wideAdds_walk (h0 * 18446744073709551616 + l0) r0 s0 (h1 * 18446744073709551616 + l1) r1 s1 n Zn.1 Zn.2 m Zm.1 Zm.2
  rw [p0, q0, p1, q1] at h
  exact h

end Go.Proofs.Ytjimiomokjfmiaa.Am
