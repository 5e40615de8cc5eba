/-
  The walk of the law WideLaws.
-/
import Derived.Test.YtjimiomokjfmiaaProg
import Derived.Test.YtjimiomokjfmiaaAm13
import Derived.Test.YtjimiomokjfmiaaWd4
namespace Go.Proofs.Ytjimiomokjfmiaa.Am
open Go Go.Proofs
set_option maxRecDepth 100000
set_option maxHeartbeats 4000000
set_option linter.unusedVariables false
set_option linter.unusedSimpArgs false

theorem wideLaws_walk (a : Int) (zla : -170141183460469231731687303715884105728 ≤ a) (zua : a < 170141183460469231731687303715884105728) (b : Int) (zlb : -170141183460469231731687303715884105728 ≤ b) (zub : b < 170141183460469231731687303715884105728) (c : Int) (zlc : -170141183460469231731687303715884105728 ≤ c) (zuc : c < 170141183460469231731687303715884105728) (n : Int) (zln : -9223372036854775808 ≤ n) (zun : n ≤ 9223372036854775807) (m : Int) (zlm : -9223372036854775808 ≤ m) (zum : m ≤ 9223372036854775807) :
    AC Try.prog 5 0 ([.agg #[.int .i64 (Sp.wh a), .int .u64 (Sp.wl a)], .agg #[.int .i64 (Sp.wh b), .int .u64 (Sp.wl b)], .agg #[.int .i64 (Sp.wh c), .int .u64 (Sp.wl c)], .int .i64 n, .int .i64 m]) [] (.bool true) [] := by
  have p0 := Sp.mul_bd (a := n) (b := m) (A := 9223372036854775808) (B := 9223372036854775808) (by omega) (by omega) (by omega) (by omega)
  refine ac_in Try.func5 (fun w0 W pin => ?_)
  refine aw_p 3 (
    .a 4 1 <| .nil _ _) ?_
  refine aw_sq 6 7 ?_
  refine aw_p 13 (
    .p (does_c (terrkeep1_wideBegun_ok)) <| .a 1 4 <| .nil _ _) ?_
  refine aw_fl 27 ?_
  refine aw_sk ?_
  refine then_normal ?_
  refine aw_p 15 (
    .a 1 4 <| .p (does_c (wof_ok n (by omega) (by omega))) <| .a 1 4 <| .p (does_c (wtimes_in n m (by omega) (by omega) (by omega) (by omega) ((Sp.in128_iff _).2 (by omega)))) <| .a 6 4 <| .nil _ _) ?_
  refine aw_d 31 (
    .a 2 5 <| .p (does_c (wadd_ok a b)) <| .a 1 5 <| .p (does_c (wadd_ok (a + b) c)) <| .a 2 5 <| .nil _ _) ?_
  refine aw_d 63 (
    .a 4 6 <| .p (does_c (wadd_ok b c)) <| .p (does_c (wadd_ok a (b + c))) <|
    .p (does_e true ((show (((Sp.wh ((a + b) + c)) == (Sp.wh (a + (b + c)))) && (((Sp.wl ((a + b) + c)) == (Sp.wl (a + (b + c)))) && true)) = true from (by have qq : ((a + b) + c) = (a + (b + c)) := (by first | omega | grind); rw [qq]; first | (simp; done) | decide)))) <| .a 3 6 <|
    .p (does_c (wadd_ok a b)) <| .a 2 6 <| .p (does_c (wadd_ok b a)) <| .p (does_e true ((show (((Sp.wh (a + b)) == (Sp.wh (b + a))) && (((Sp.wl (a + b)) == (Sp.wl (b + a))) && true)) = true from (by have qq : (a + b) = (b + a) := (by first | omega | grind); rw [qq]; first | (simp; done) | decide)))) <|
    .a 4 6 <| .p (does_c (wadd_ok a b)) <| .a 1 6 <| .p (does_c (wsub_ok (a + b) b)) <| .a 1 6 <|
    .p (does_e true ((show (((Sp.wh ((a + b) - b)) == (Sp.wh a)) && (((Sp.wl ((a + b) - b)) == (Sp.wl a)) && true)) = true from (by have qq : ((a + b) - b) = a := (by first | omega | grind); rw [qq]; first | (simp; done) | decide)))) <| .a 4 6 <| .p (does_c (wneg_ok a)) <| .p (does_c (wadd_ok a (-a))) <|
    .p (does_c (wof_ok 0 (by decide) (by decide))) <| .p (does_e true ((show (((Sp.wh (a + (-a))) == 0) && (((Sp.wl (a + (-a))) == 0) && true)) = true from (by have qq : (a + (-a)) = (0) := (by first | omega | grind); rw [qq]; first | (simp; done) | decide)))) <| .a 9 6 <|
    .p (does_c (wmul_ok n m (by omega) (by omega) (by omega) (by omega))) <| .p (does_e true ((show (((Sp.wh (n * m)) == (Sp.wh (n * m))) && (((Sp.wl (n * m)) == (Sp.wl (n * m))) && true)) = true from by simp))) <| .a 4 6 <| .p (does_c (wmul_ok n m (by omega) (by omega) (by omega) (by omega))) <|
    .a 2 6 <| .p (does_c (wmul_ok m n (by omega) (by omega) (by omega) (by omega))) <|
    .p (does_e true ((show (((Sp.wh (n * m)) == (Sp.wh (m * n))) && (((Sp.wl (n * m)) == (Sp.wl (m * n))) && true)) = true from (by have qq : (n * m) = (m * n) := (by first | omega | grind); rw [qq]; first | (simp; done) | decide)))) <| .a 3 6 <|
    .p (does_c (wmul_ok n 1 (by omega) (by omega) (by decide) (by decide))) <| .a 1 6 <| .p (does_c (wof_ok n (by omega) (by omega))) <|
    .p (does_e true ((show (((Sp.wh (n * 1)) == (Sp.wh n)) && (((Sp.wl (n * 1)) == (Sp.wl n)) && true)) = true from (by have qq : (n * 1) = n := (by first | omega | grind); rw [qq]; first | (simp; done) | decide)))) <| .a 2 6 <| .nil _ _) ?_
  refine aw_w [(0, .agg #[.int .i64 (Sp.wh a), .int .u64 (Sp.wl a)]), (1, .agg #[.int .i64 (Sp.wh b), .int .u64 (Sp.wl b)]), (2, .agg #[.int .i64 (Sp.wh c), .int .u64 (Sp.wl c)]), (3, .int .i64 n), (4, .int .i64 m), (5, .pointer (some ⟨1, 0, none⟩)), (6, .pointer (some ⟨2, 0, none⟩)), (7, .pointer (some ⟨3, 0, none⟩)), (10, .bool true), (11, .pointer (some ⟨4, 0, none⟩)), (13, .pointer (some ⟨5, 0, none⟩)), (14, .bool true), (15, .bool false), (16, .tuple #[.agg #[.int .i64 (Sp.wh (n * m)), .int .u64 (Sp.wl (n * m))], .int .i64 0]), (17, .int .i64 n), (18, .agg #[.int .i64 (Sp.wh n), .int .u64 (Sp.wl n)]), (19, .int .i64 m), (20, .tuple #[.agg #[.int .i64 (Sp.wh (n * m)), .int .u64 (Sp.wl (n * m))], .int .i64 0]), (21, .agg #[.int .i64 (Sp.wh (n * m)), .int .u64 (Sp.wl (n * m))]), (22, .int .i64 0), (23, .agg #[.int .i64 (Sp.wh a), .int .u64 (Sp.wl a)]), (24, .agg #[.int .i64 (Sp.wh b), .int .u64 (Sp.wl b)]), (25, .agg #[.int .i64 (Sp.wh (a + b)), .int .u64 (Sp.wl (a + b))]), (26, .agg #[.int .i64 (Sp.wh c), .int .u64 (Sp.wl c)]), (27, .agg #[.int .i64 (Sp.wh ((a + b) + c)), .int .u64 (Sp.wl ((a + b) + c))])] [(1, ⟨[.int .i64 (Sp.wh a), .int .u64 (Sp.wl a)], 27, true, 2⟩), (2, ⟨[.int .i64 (Sp.wh b), .int .u64 (Sp.wl b)], 27, true, 2⟩), (3, ⟨[.int .i64 (Sp.wh c), .int .u64 (Sp.wl c)], 27, true, 2⟩), (4, ⟨[.int .i64 (Sp.wh (n * m)), .int .u64 (Sp.wl (n * m))], 27, true, 2⟩), (5, ⟨[.int .i64 (Sp.wh ((a + b) + c)), .int .u64 (Sp.wl ((a + b) + c))], 27, true, 2⟩)] ?_
  refine aw_rt ?_
  exact en_ret [.bool true] (by kernel_rfl)


theorem wideLaws_law (h0 l0 : Int) (H0 : -9223372036854775808 ≤ h0 ∧ h0 ≤ 9223372036854775807) (L0 : 0 ≤ l0 ∧ l0 ≤ 18446744073709551615) (h1 l1 : Int) (H1 : -9223372036854775808 ≤ h1 ∧ h1 ≤ 9223372036854775807) (L1 : 0 ≤ l1 ∧ l1 ≤ 18446744073709551615) (h2 l2 : Int) (H2 : -9223372036854775808 ≤ h2 ∧ h2 ≤ 9223372036854775807) (L2 : 0 ≤ l2 ∧ l2 ≤ 18446744073709551615) (n : Int) (Zn : -9223372036854775808 ≤ n ∧ n ≤ 9223372036854775807) (m : Int) (Zm : -9223372036854775808 ≤ m ∧ m ≤ 9223372036854775807) : AC Try.prog 5 0 [.agg #[.int .i64 h0, .int .u64 l0], .agg #[.int .i64 h1, .int .u64 l1], .agg #[.int .i64 h2, .int .u64 l2], .int .i64 n, .int .i64 m] [] (.bool true) [] := by
  obtain ⟨p0, q0, r0, s0⟩ := Sp.wh_raw H0 L0
  obtain ⟨p1, q1, r1, s1⟩ := Sp.wh_raw H1 L1
  obtain ⟨p2, q2, r2, s2⟩ := Sp.wh_raw H2 L2
  have h := wideLaws_walk (h0 * 18446744073709551616 + l0) r0 s0 (h1 * 18446744073709551616 + l1) r1 s1 (h2 * 18446744073709551616 + l2) r2 s2 n Zn.1 Zn.2 m Zm.1 Zm.2
  rw [p0, q0, p1, q1, p2, q2] at h
  exact h

end Go.Proofs.Ytjimiomokjfmiaa.Am
