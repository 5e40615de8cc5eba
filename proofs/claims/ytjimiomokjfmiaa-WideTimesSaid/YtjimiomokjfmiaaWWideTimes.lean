/-
  The walk of the law WideTimes.
-/
import Derived.Test.YtjimiomokjfmiaaProg
import Derived.Test.YtjimiomokjfmiaaAm13
import Derived.Test.YtjimiomokjfmiaaWd4
namespace Go.Proofs.Ytjimiomokjfmiaa.Am
open Go Go.Proofs
set_option maxRecDepth 100000
set_option maxHeartbeats 4000000
set_option linter.unusedVariables false
set_option linter.unusedSimpArgs false

theorem wideTimes_walk (a : Int) (zla : -170141183460469231731687303715884105728 ≤ a) (zua : a < 170141183460469231731687303715884105728) (n : Int) (zln : -9223372036854775808 ≤ n) (zun : n ≤ 9223372036854775807) :
    AC Try.prog 7 0 ([.agg #[.int .i64 (Sp.wh a), .int .u64 (Sp.wl a)], .int .i64 n]) [] (.bool true) [] := by
  have p0 := Sp.mul_bd (a := a) (b := n) (A := 170141183460469231731687303715884105728) (B := 9223372036854775808) (by omega) (by omega) (by omega) (by omega)
  refine ac_in Try.func7 (fun w0 W pin => ?_)
  refine aw_p 3 (
    .a 2 1 <| .nil _ _) ?_
  refine aw_sq 6 7 ?_
  refine aw_p 13 (
    .p (does_c (terrlaw1_wideBegun_ok)) <| .a 1 2 <| .nil _ _) ?_
  refine aw_fl 27 ?_
  refine aw_sk ?_
  refine then_normal ?_
  refine aw_p 15 (
    .a 1 2 <| .p (does_c (lwide_ok a (by omega) (by omega))) <| .a 1 2 <| .p (does_c (llof_ok n (by omega) (by omega))) <| .a 4 2 <| .nil _ _) ?_
  rcases Bool.eq_false_or_eq_true (Sp.in128 (a * n)) with h1 | h1
  · refine aw_p 31 (
      .a 2 4 <| .p (does_c (wtimes_in a n (by omega) (by omega) (by omega) (by omega) h1)) <| .a 6 4 <| .nil _ _) ?_
    refine aw_sq 62 63 ?_
    refine aw_p 125 (
      .a 2 5 <| .p (does_c (ltimes_ok a n)) <| .a 2 5 <| .nil _ _) ?_
    refine aw_p 251 (
      .a 1 6 <| .p (does_cb _ (lfits_ok (a * n) (by omega) (by omega)) true (h1)) <| .a 1 6 <| .nil _ _) ?_
    refine aw_fl 503 ?_
    refine aw_d 1007 (
      .a 5 6 <| .p (does_c (lwd_ok (a * n))) <| .p (does_e false ((show (!(((Sp.wh (a * n)) == (Sp.wh (a * n))) && (((Sp.wl (a * n)) == (Sp.wl (a * n))) && true))) = false from by simp))) <| .a 1 6 <| .nil _ _) ?_
    refine aw_fl 2015 ?_
    refine aw_sk ?_
    refine then_normal ?_
    rcases Bool.eq_false_or_eq_true (decide (n < 1)) with h2 | h2
    · have h2p : ((n < 1)) := by first | (simpa using h2) | (have h2q := h2; simp at h2q; omega) | (have h2q := bx1 h2; simp at h2q; omega)
      refine aw_p 127 (
        .a 2 6 <| .p (does_c (wdiv0_ok a n (by omega))) <| .a 8 6 <| .nil _ _) ?_
      refine aw_sq 254 255 ?_
      refine aw_p 509 (
        .a 1 7 <| .p (does_b true (h2)) <| .nil _ _) ?_
      refine aw_tr 1018 ?_
      refine aw_p 2037 (
        .a 5 7 <| .p (does_e false ((show (!((0 == 0) && ((0 == 0) && true))) = false from by decide))) <| .a 5 7 <| .nil _ _) ?_
      refine aw_fl 4075 ?_
      refine aw_sk ?_
      refine then_normal ?_
      rcases Bool.eq_false_or_eq_true (Sp.in64 a) with h3 | h3
      · have h3p : (Sp.in64 a) = true := by simpa using h3
        refine aw_p 511 (
          .a 1 7 <| .p (does_c (wshort_in a (by omega) (by omega) h3)) <| .a 5 7 <| .nil _ _) ?_
        refine aw_sq 1022 1023 ?_
        refine aw_p 2045 (
          .a 1 7 <| .p (does_c (lshort_ok a (by omega) (by omega))) <| .a 4 7 <| .p (does_b true (h3)) <| .nil _ _) ?_
        refine aw_p 4091 (
          .a 1 7 <| .nil _ _) ?_
        refine aw_tr 8182 ?_
        refine aw_p 16365 (
          .a 5 7 <| .p (does_b true ((show (a == (Sp.s64 a)) = true from (by rw [beq_iff_eq]; have := (Sp.in64_iff a).1 (by assumption); exact (Sp.s64_id this.1 this.2).symm)))) <| .a 2 7 <| .nil _ _) ?_
        refine aw_rt ?_
        refine then_ret ?_
        exact en_ret [.bool true] (by kernel_rfl)
      · have h3p : ¬ (Sp.in64 a) = true := by simpa using h3
        refine aw_p 511 (
          .a 1 7 <| .p (does_c (wshort_out a (by omega) (by omega) h3)) <| .a 5 7 <| .nil _ _) ?_
        refine aw_sq 1022 1023 ?_
        refine aw_p 2045 (
          .a 1 7 <| .p (does_c (lshort_ok a (by omega) (by omega))) <| .a 4 7 <| .p (does_b false (h3)) <| .nil _ _) ?_
        refine aw_p 4091 (
          .a 1 7 <| .nil _ _) ?_
        refine aw_fl 8183 ?_
        refine aw_sk ?_
        refine then_normal ?_
        refine aw_p 2047 (
          .a 7 7 <| .nil _ _) ?_
        refine aw_rt ?_
        exact en_ret [.bool true] (by kernel_rfl)
    · have h2p : ¬ ((n < 1)) := by first | (simpa using h2) | (have h2q := h2; simp at h2q; omega) | (have h2q := bx2 h2; simp at h2q; omega)
      have db := Sp.ediv_bd (x := a) (y := n) (M := 170141183460469231731687303715884105728) (by omega) (by omega) (by omega); have dm := Sp.emod_lt (a := a) (b := n) (by omega); have de := Sp.div_mod a n
      refine aw_p 127 (
        .a 2 6 <| .p (does_c (wdiv_ok a n (by omega) (by omega) (by omega) (by omega))) <| .a 8 6 <| .nil _ _) ?_
      refine aw_sq 254 255 ?_
      refine aw_p 509 (
        .a 1 7 <| .p (does_b false (h2)) <| .nil _ _) ?_
      refine aw_fl 1019 ?_
      refine aw_d 2039 (
        .a 4 7 <| .p (does_b false ((show (decide ((a % n) < 0)) = false from decide_eq_false (by have := Sp.emod_lt (a := a) (b := n) (by omega); omega)))) <| .a 4 7 <|
        .p (does_b false ((show (decide ((a % n) ≥ n)) = false from decide_eq_false (by have := Sp.emod_lt (a := a) (b := n) (by omega); omega)))) <| .a 3 7 <| .p (does_c (lwide_ok (a / n) (by omega) (Sp.div_lt zua (by omega)))) <| .a 1 7 <| .p (does_c (ltimes_ok (a / n) n)) <| .a 1 7 <|
        .p (does_c (llof_ok (a % n) (by omega) (by omega))) <| .p (does_c (lplus_ok ((a / n) * n) (a % n))) <| .a 1 7 <|
        .p (does_e false ((show (!(((Sp.dgt (((a / n) * n) + (a % n)) 0) == (Sp.dgt a 0)) && (((Sp.dgt (((a / n) * n) + (a % n)) 1) == (Sp.dgt a 1)) && (((Sp.dgt (((a / n) * n) + (a % n)) 2) == (Sp.dgt a 2)) && (((Sp.dgt (((a / n) * n) + (a % n)) 3) == (Sp.dgt a 3)) && (((Sp.dgt (((a / n) * n) + (a % n)) 4) == (Sp.dgt a 4)) && (((Sp.dgt (((a / n) * n) + (a % n)) 5) == (Sp.dgt a 5)) && (((Sp.dgt (((a / n) * n) + (a % n)) 6) == (Sp.dgt a 6)) && true)))))))) = false from (by have qq : (((a / n) * n) + (a % n)) = a := (by exact Sp.div_mod a n); rw [qq]; first | (simp; done) | decide)))) <|
        .a 1 7 <| .nil _ _) ?_
      refine aw_fl 4079 ?_
      refine aw_sk ?_
      refine then_normal ?_
      rcases Bool.eq_false_or_eq_true (Sp.in64 a) with h4 | h4
      · have h4p : (Sp.in64 a) = true := by simpa using h4
        refine aw_p 511 (
          .a 1 7 <| .p (does_c (wshort_in a (by omega) (by omega) h4)) <| .a 5 7 <| .nil _ _) ?_
        refine aw_sq 1022 1023 ?_
        refine aw_p 2045 (
          .a 1 7 <| .p (does_c (lshort_ok a (by omega) (by omega))) <| .a 4 7 <| .p (does_b true (h4)) <| .nil _ _) ?_
        refine aw_p 4091 (
          .a 1 7 <| .nil _ _) ?_
        refine aw_tr 8182 ?_
        refine aw_p 16365 (
          .a 5 7 <| .p (does_b true ((show (a == (Sp.s64 a)) = true from (by rw [beq_iff_eq]; have := (Sp.in64_iff a).1 (by assumption); exact (Sp.s64_id this.1 this.2).symm)))) <| .a 2 7 <| .nil _ _) ?_
        refine aw_rt ?_
        refine then_ret ?_
        exact en_ret [.bool true] (by kernel_rfl)
      · have h4p : ¬ (Sp.in64 a) = true := by simpa using h4
        refine aw_p 511 (
          .a 1 7 <| .p (does_c (wshort_out a (by omega) (by omega) h4)) <| .a 5 7 <| .nil _ _) ?_
        refine aw_sq 1022 1023 ?_
        refine aw_p 2045 (
          .a 1 7 <| .p (does_c (lshort_ok a (by omega) (by omega))) <| .a 4 7 <| .p (does_b false (h4)) <| .nil _ _) ?_
        refine aw_p 4091 (
          .a 1 7 <| .nil _ _) ?_
        refine aw_fl 8183 ?_
        refine aw_sk ?_
        refine then_normal ?_
        refine aw_p 2047 (
          .a 7 7 <| .nil _ _) ?_
        refine aw_rt ?_
        exact en_ret [.bool true] (by kernel_rfl)
  · refine aw_p 31 (
      .a 2 4 <| .p (does_c (wtimes_out a n (by omega) (by omega) (by omega) (by omega) h1)) <| .a 6 4 <| .nil _ _) ?_
    refine aw_sq 62 63 ?_
    refine aw_p 125 (
      .a 2 5 <| .p (does_c (ltimes_ok a n)) <| .a 2 5 <| .nil _ _) ?_
    refine aw_p 251 (
      .a 1 6 <| .p (does_cb _ (lfits_ok (a * n) (by omega) (by omega)) false (h1)) <| .a 1 6 <| .nil _ _) ?_
    refine aw_tr 502 ?_
    refine aw_p 1005 (
      .a 5 6 <| .p (does_e false ((show (!((0 == 0) && ((0 == 0) && true))) = false from by decide))) <| .a 1 6 <| .nil _ _) ?_
    refine aw_fl 2011 ?_
    refine aw_sk ?_
    refine then_normal ?_
    rcases Bool.eq_false_or_eq_true (decide (n < 1)) with h5 | h5
    · have h5p : ((n < 1)) := by first | (simpa using h5) | (have h5q := h5; simp at h5q; omega) | (have h5q := bx1 h5; simp at h5q; omega)
      refine aw_p 127 (
        .a 2 6 <| .p (does_c (wdiv0_ok a n (by omega))) <| .a 8 6 <| .nil _ _) ?_
      refine aw_sq 254 255 ?_
      refine aw_p 509 (
        .a 1 7 <| .p (does_b true (h5)) <| .nil _ _) ?_
      refine aw_tr 1018 ?_
      refine aw_p 2037 (
        .a 5 7 <| .p (does_e false ((show (!((0 == 0) && ((0 == 0) && true))) = false from by decide))) <| .a 5 7 <| .nil _ _) ?_
      refine aw_fl 4075 ?_
      refine aw_sk ?_
      refine then_normal ?_
      rcases Bool.eq_false_or_eq_true (Sp.in64 a) with h6 | h6
      · have h6p : (Sp.in64 a) = true := by simpa using h6
        refine aw_p 511 (
          .a 1 7 <| .p (does_c (wshort_in a (by omega) (by omega) h6)) <| .a 5 7 <| .nil _ _) ?_
        refine aw_sq 1022 1023 ?_
        refine aw_p 2045 (
          .a 1 7 <| .p (does_c (lshort_ok a (by omega) (by omega))) <| .a 4 7 <| .p (does_b true (h6)) <| .nil _ _) ?_
        refine aw_p 4091 (
          .a 1 7 <| .nil _ _) ?_
        refine aw_tr 8182 ?_
        refine aw_p 16365 (
          .a 5 7 <| .p (does_b true ((show (a == (Sp.s64 a)) = true from (by rw [beq_iff_eq]; have := (Sp.in64_iff a).1 (by assumption); exact (Sp.s64_id this.1 this.2).symm)))) <| .a 2 7 <| .nil _ _) ?_
        refine aw_rt ?_
        refine then_ret ?_
        exact en_ret [.bool true] (by kernel_rfl)
      · have h6p : ¬ (Sp.in64 a) = true := by simpa using h6
        refine aw_p 511 (
          .a 1 7 <| .p (does_c (wshort_out a (by omega) (by omega) h6)) <| .a 5 7 <| .nil _ _) ?_
        refine aw_sq 1022 1023 ?_
        refine aw_p 2045 (
          .a 1 7 <| .p (does_c (lshort_ok a (by omega) (by omega))) <| .a 4 7 <| .p (does_b false (h6)) <| .nil _ _) ?_
        refine aw_p 4091 (
          .a 1 7 <| .nil _ _) ?_
        refine aw_fl 8183 ?_
        refine aw_sk ?_
        refine then_normal ?_
        refine aw_p 2047 (
          .a 7 7 <| .nil _ _) ?_
        refine aw_rt ?_
        exact en_ret [.bool true] (by kernel_rfl)
    · have h5p : ¬ ((n < 1)) := by first | (simpa using h5) | (have h5q := h5; simp at h5q; omega) | (have h5q := bx2 h5; simp at h5q; omega)
      have db := Sp.ediv_bd (x := a) (y := n) (M := 170141183460469231731687303715884105728) (by omega) (by omega) (by omega); have dm := Sp.emod_lt (a := a) (b := n) (by omega); have de := Sp.div_mod a n
      refine aw_p 127 (
        .a 2 6 <| .p (does_c (wdiv_ok a n (by omega) (by omega) (by omega) (by omega))) <| .a 8 6 <| .nil _ _) ?_
      refine aw_sq 254 255 ?_
      refine aw_p 509 (
        .a 1 7 <| .p (does_b false (h5)) <| .nil _ _) ?_
      refine aw_fl 1019 ?_
      refine aw_d 2039 (
        .a 4 7 <| .p (does_b false ((show (decide ((a % n) < 0)) = false from decide_eq_false (by have := Sp.emod_lt (a := a) (b := n) (by omega); omega)))) <| .a 4 7 <|
        .p (does_b false ((show (decide ((a % n) ≥ n)) = false from decide_eq_false (by have := Sp.emod_lt (a := a) (b := n) (by omega); omega)))) <| .a 3 7 <| .p (does_c (lwide_ok (a / n) (by omega) (Sp.div_lt zua (by omega)))) <| .a 1 7 <| .p (does_c (ltimes_ok (a / n) n)) <| .a 1 7 <|
        .p (does_c (llof_ok (a % n) (by omega) (by omega))) <| .p (does_c (lplus_ok ((a / n) * n) (a % n))) <| .a 1 7 <|
        .p (does_e false ((show (!(((Sp.dgt (((a / n) * n) + (a % n)) 0) == (Sp.dgt a 0)) && (((Sp.dgt (((a / n) * n) + (a % n)) 1) == (Sp.dgt a 1)) && (((Sp.dgt (((a / n) * n) + (a % n)) 2) == (Sp.dgt a 2)) && (((Sp.dgt (((a / n) * n) + (a % n)) 3) == (Sp.dgt a 3)) && (((Sp.dgt (((a / n) * n) + (a % n)) 4) == (Sp.dgt a 4)) && (((Sp.dgt (((a / n) * n) + (a % n)) 5) == (Sp.dgt a 5)) && (((Sp.dgt (((a / n) * n) + (a % n)) 6) == (Sp.dgt a 6)) && true)))))))) = false from (by have qq : (((a / n) * n) + (a % n)) = a := (by exact Sp.div_mod a n); rw [qq]; first | (simp; done) | decide)))) <|
        .a 1 7 <| .nil _ _) ?_
      refine aw_fl 4079 ?_
      refine aw_sk ?_
      refine then_normal ?_
      rcases Bool.eq_false_or_eq_true (Sp.in64 a) with h7 | h7
      · have h7p : (Sp.in64 a) = true := by simpa using h7
        refine aw_p 511 (
          .a 1 7 <| .p (does_c (wshort_in a (by omega) (by omega) h7)) <| .a 5 7 <| .nil _ _) ?_
        refine aw_sq 1022 1023 ?_
        refine aw_p 2045 (
          .a 1 7 <| .p (does_c (lshort_ok a (by omega) (by omega))) <| .a 4 7 <| .p (does_b true (h7)) <| .nil _ _) ?_
        refine aw_p 4091 (
          .a 1 7 <| .nil _ _) ?_
        refine aw_tr 8182 ?_
        refine aw_p 16365 (
          .a 5 7 <| .p (does_b true ((show (a == (Sp.s64 a)) = true from (by rw [beq_iff_eq]; have := (Sp.in64_iff a).1 (by assumption); exact (Sp.s64_id this.1 this.2).symm)))) <| .a 2 7 <| .nil _ _) ?_
        refine aw_rt ?_
        refine then_ret ?_
        exact en_ret [.bool true] (by kernel_rfl)
      · have h7p : ¬ (Sp.in64 a) = true := by simpa using h7
        refine aw_p 511 (
          .a 1 7 <| .p (does_c (wshort_out a (by omega) (by omega) h7)) <| .a 5 7 <| .nil _ _) ?_
        refine aw_sq 1022 1023 ?_
        refine aw_p 2045 (
          .a 1 7 <| .p (does_c (lshort_ok a (by omega) (by omega))) <| .a 4 7 <| .p (does_b false (h7)) <| .nil _ _) ?_
        refine aw_p 4091 (
          .a 1 7 <| .nil _ _) ?_
        refine aw_fl 8183 ?_
        refine aw_sk ?_
        refine then_normal ?_
        refine aw_p 2047 (
          .a 7 7 <| .nil _ _) ?_
        refine aw_rt ?_
        exact en_ret [.bool true] (by kernel_rfl)


theorem wideTimes_law (h0 l0 : Int) (H0 : -9223372036854775808 ≤ h0 ∧ h0 ≤ 9223372036854775807) (L0 : 0 ≤ l0 ∧ l0 ≤ 18446744073709551615) (n : Int) (Zn : -9223372036854775808 ≤ n ∧ n ≤ 9223372036854775807) : AC Try.prog 7 0 [.agg #[.int .i64 h0, .int .u64 l0], .int .i64 n] [] (.bool true) [] := by
  obtain ⟨p0, q0, r0, s0⟩ := Sp.wh_raw H0 L0
  have h := wideTimes_walk (h0 * 18446744073709551616 + l0) r0 s0 n Zn.1 Zn.2
  rw [p0, q0] at h
  exact h

end Go.Proofs.Ytjimiomokjfmiaa.Am
