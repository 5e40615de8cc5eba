/-
  The walk of the law WideDivides.
-/
import Derived.Test.YtjimiomokjfmiaaProg
import Derived.Test.YtjimiomokjfmiaaAm13
import Derived.Test.YtjimiomokjfmiaaWd4
namespace Go.Proofs.Ytjimiomokjfmiaa.Am
open Go Go.Proofs
set_option maxRecDepth 100000
set_option maxHeartbeats 4000000
set_option linter.unusedVariables false
set_option linter.unusedSimpArgs false

theorem wideDivides_walk (a : Int) (zla : -170141183460469231731687303715884105728 ≤ a) (zua : a < 170141183460469231731687303715884105728) (n : Int) (zln : -9223372036854775808 ≤ n) (zun : n ≤ 9223372036854775807) (m : Int) (zlm : -9223372036854775808 ≤ m) (zum : m ≤ 9223372036854775807) :
    AC Try.prog 6 0 ([.agg #[.int .i64 (Sp.wh a), .int .u64 (Sp.wl a)], .int .i64 n, .int .i64 m]) [] (.bool true) [] := by
  have e0 := Sp.emod_bd n (n := 4611686018427387904) (by decide); have dm := Sp.emod_lt (a := a) (b := (1 + n % 4611686018427387904)) (by omega); have db := Sp.ediv_bd (x := a) (y := (1 + n % 4611686018427387904)) (M := 170141183460469231731687303715884105728) (by omega) (by omega) (by omega); have de := Sp.div_mod a (1 + n % 4611686018427387904); have p0 := Sp.mul_bd (a := m) (b := (1 + n % 4611686018427387904)) (A := 9223372036854775808) (B := 4611686018427387904) (by omega) (by omega) (by omega) (by omega)
  refine ac_in Try.func6 (fun w0 W pin => ?_)
  refine aw_p 3 (
    .a 2 1 <| .nil _ _) ?_
  refine aw_sq 6 7 ?_
  refine aw_p 13 (
    .p (does_c (terrkeep1_wideBegun_ok)) <| .a 1 2 <| .nil _ _) ?_
  refine aw_fl 27 ?_
  refine aw_sk ?_
  refine then_normal ?_
  refine aw_p 15 (
    .a 1 2 <| .p (does_c (below_ok n 4611686018427387904 (by decide) (by decide))) <| .p (does_i (1 + (n % 4611686018427387904)) (wrap_i64 (by omega) (by omega)) .i64) <| .a 1 2 <| .nil _ _) ?_
  refine aw_p 31 (
    .a 2 2 <| .p (does_c (wdiv_ok a (1 + (n % 4611686018427387904)) (by omega) (by omega) (by omega) (by omega))) <| .a 8 2 <| .nil _ _) ?_
  rcases Bool.eq_false_or_eq_true (Sp.in128 ((a / (1 + (n % 4611686018427387904))) * (1 + (n % 4611686018427387904)))) with h1 | h1
  · refine aw_p 63 (
      .a 2 3 <| .p (does_c (wtimes_in (a / (1 + (n % 4611686018427387904))) (1 + (n % 4611686018427387904)) (by omega) (Sp.div_lt zua (by omega)) (by omega) (by omega) h1)) <| .a 6 3 <| .nil _ _) ?_
    refine aw_p 127 (
      .a 2 4 <| .p (does_c (wmul_ok m (1 + (n % 4611686018427387904)) (by omega) (by omega) (by omega) (by omega))) <| .a 1 4 <| .p (does_c (wdiv_ok (m * (1 + (n % 4611686018427387904))) (1 + (n % 4611686018427387904)) (by omega) (by omega) (by omega) (by omega))) <| .a 8 4 <| .nil _ _) ?_
    refine aw_sq 254 255 ?_
    refine aw_d 509 (
      .a 8 5 <| .p (does_b false ((show (decide ((a % (1 + (n % 4611686018427387904))) < 0)) = false from decide_eq_false (by omega)))) <| .a 4 5 <| .p (does_b false ((show (decide ((a % (1 + (n % 4611686018427387904))) ≥ (1 + (n % 4611686018427387904)))) = false from decide_eq_false (by omega)))) <|
      .a 4 5 <| .p (does_c (wof_ok m (by omega) (by omega))) <|
      .p (does_e false ((show (!(((Sp.wh ((m * (1 + (n % 4611686018427387904))) / (1 + (n % 4611686018427387904)))) == (Sp.wh m)) && (((Sp.wl ((m * (1 + (n % 4611686018427387904))) / (1 + (n % 4611686018427387904)))) == (Sp.wl m)) && true))) = false from (by have qq : ((m * (1 + (n % 4611686018427387904))) / (1 + (n % 4611686018427387904))) = m := (by exact Int.mul_ediv_cancel _ (by omega)); rw [qq]; first | (simp; done) | decide)))) <|
      .a 3 5 <| .p (does_b false ((show (((m * (1 + (n % 4611686018427387904))) % (1 + (n % 4611686018427387904))) != 0) = false from (by rw [show m * (1 + n % 4611686018427387904) % (1 + n % 4611686018427387904) = 0 from Int.mul_emod_left _ _]; rfl)))) <| .a 1 5 <| .nil _ _) ?_
    refine aw_fl 1019 ?_
    refine aw_sk ?_
    refine then_normal ?_
    refine aw_d 511 (
      .a 13 5 <| .p (does_c (wof_ok (a % (1 + (n % 4611686018427387904))) (by omega) (by omega))) <| .p (does_c (wadd_ok ((a / (1 + (n % 4611686018427387904))) * (1 + (n % 4611686018427387904))) (a % (1 + (n % 4611686018427387904))))) <| .a 1 5 <|
      .p (does_e true ((show (((Sp.wh (((a / (1 + (n % 4611686018427387904))) * (1 + (n % 4611686018427387904))) + (a % (1 + (n % 4611686018427387904))))) == (Sp.wh a)) && (((Sp.wl (((a / (1 + (n % 4611686018427387904))) * (1 + (n % 4611686018427387904))) + (a % (1 + (n % 4611686018427387904))))) == (Sp.wl a)) && true)) = true from (by have qq : (((a / (1 + (n % 4611686018427387904))) * (1 + (n % 4611686018427387904))) + (a % (1 + (n % 4611686018427387904)))) = a := (by exact Sp.div_mod a (1 + n % 4611686018427387904)); rw [qq]; first | (simp; done) | decide)))) <|
      .a 3 5 <| .nil _ _) ?_
    refine aw_rt ?_
    exact en_ret [.bool true] (by kernel_rfl)
  · refine aw_p 63 (
      .a 2 3 <| .p (does_c (wtimes_out (a / (1 + (n % 4611686018427387904))) (1 + (n % 4611686018427387904)) (by omega) (Sp.div_lt zua (by omega)) (by omega) (by omega) h1)) <| .a 6 3 <| .nil _ _) ?_
    refine aw_p 127 (
      .a 2 4 <| .p (does_c (wmul_ok m (1 + (n % 4611686018427387904)) (by omega) (by omega) (by omega) (by omega))) <| .a 1 4 <| .p (does_c (wdiv_ok (m * (1 + (n % 4611686018427387904))) (1 + (n % 4611686018427387904)) (by omega) (by omega) (by omega) (by omega))) <| .a 8 4 <| .nil _ _) ?_
    refine aw_sq 254 255 ?_
    refine aw_d 509 (
      .a 8 5 <| .p (does_b false ((show (decide ((a % (1 + (n % 4611686018427387904))) < 0)) = false from decide_eq_false (by omega)))) <| .a 4 5 <| .p (does_b false ((show (decide ((a % (1 + (n % 4611686018427387904))) ≥ (1 + (n % 4611686018427387904)))) = false from decide_eq_false (by omega)))) <|
      .a 4 5 <| .p (does_c (wof_ok m (by omega) (by omega))) <|
      .p (does_e false ((show (!(((Sp.wh ((m * (1 + (n % 4611686018427387904))) / (1 + (n % 4611686018427387904)))) == (Sp.wh m)) && (((Sp.wl ((m * (1 + (n % 4611686018427387904))) / (1 + (n % 4611686018427387904)))) == (Sp.wl m)) && true))) = false from (by have qq : ((m * (1 + (n % 4611686018427387904))) / (1 + (n % 4611686018427387904))) = m := (by exact Int.mul_ediv_cancel _ (by omega)); rw [qq]; first | (simp; done) | decide)))) <|
      .a 3 5 <| .p (does_b false ((show (((m * (1 + (n % 4611686018427387904))) % (1 + (n % 4611686018427387904))) != 0) = false from (by rw [show m * (1 + n % 4611686018427387904) % (1 + n % 4611686018427387904) = 0 from Int.mul_emod_left _ _]; rfl)))) <| .a 1 5 <| .nil _ _) ?_
    refine aw_fl 1019 ?_
    refine aw_sk ?_
    refine then_normal ?_
    refine aw_d 511 (
      .a 5 5 <| .p (does_b true ((show (decide ((Sp.wh a) < 0)) = true from (by rw [Sp.wh_neg zla zua]; exact decide_eq_true (Sp.back_neg (n := (1 + n % 4611686018427387904)) (by omega) zua (by simp [*])))))) <| .a 14 5 <| .nil _ _) ?_
    refine aw_rt ?_
    exact en_ret [.bool true] (by kernel_rfl)


theorem wideDivides_law (h0 l0 : Int) (H0 : -9223372036854775808 ≤ h0 ∧ h0 ≤ 9223372036854775807) (L0 : 0 ≤ l0 ∧ l0 ≤ 18446744073709551615) (n : Int) (Zn : -9223372036854775808 ≤ n ∧ n ≤ 9223372036854775807) (m : Int) (Zm : -9223372036854775808 ≤ m ∧ m ≤ 9223372036854775807) : AC Try.prog 6 0 [.agg #[.int .i64 h0, .int .u64 l0], .int .i64 n, .int .i64 m] [] (.bool true) [] := by
  obtain ⟨p0, q0, r0, s0⟩ := Sp.wh_raw H0 L0
  have h := wideDivides_walk (h0 * 18446744073709551616 + l0) r0 s0 n Zn.1 Zn.2 m Zm.1 Zm.2
  rw [p0, q0] at h
  exact h

end Go.Proofs.Ytjimiomokjfmiaa.Am
