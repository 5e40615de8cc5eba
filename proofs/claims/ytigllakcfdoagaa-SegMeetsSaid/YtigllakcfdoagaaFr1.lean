/-
  The walks of the document's fractions.
-/
import Derived.Test.YtigllakcfdoagaaProg
import Derived.Test.YtigllakcfdoagaaAm16
import Derived.Test.YtigllakcfdoagaaLn2
import Derived.Test.YtigllakcfdoagaaNc7
namespace Go.Proofs.Ytigllakcfdoagaa.Am
open Go Go.Proofs
set_option maxRecDepth 100000
set_option maxHeartbeats 4000000
set_option linter.unusedVariables false
set_option linter.unusedSimpArgs false

theorem rfit_ok (n1 d1 : Int) (zln1 : -9223372036854775808 ≤ n1) (zun1 : n1 ≤ 9223372036854775807) (zld1 : -9223372036854775808 ≤ d1) (zud1 : d1 ≤ 9223372036854775807) :
    AC Try.prog 21 0 ([.agg #[.int .i64 n1, .int .i64 d1]]) [] (.bool (Sp.gd n1 d1)) [] := by
  refine ac_in Try.func21 (fun w0 W pin => ?_)
  refine aw_p 3 (
    .a 2 1 <| .nil _ _) ?_
  rcases Bool.eq_false_or_eq_true (decide (0 < d1)) with h1 | h1
  · have h1p : ((0 < d1)) := by first | (simpa using h1) | (have h1q := h1; simp at h1q; omega) | (have h1q := bx1 h1; simp at h1q; omega)
    rcases Bool.eq_false_or_eq_true (decide (-9223372036854775808 < n1)) with h2 | h2
    · have h2p : ((-9223372036854775808 < n1)) := by first | (simpa using h2) | (have h2q := h2; simp at h2q; omega) | (have h2q := bx1 h2; simp at h2q; omega)
      refine aw_d 7 (
        .a 2 2 <| .p (does_b true ((rfl).trans (h1))) <| .a 3 2 <| .p (does_b true ((Sp.neq_min zln1).trans (h2))) <| .a 4 2 <| .p (does_c (llof_ok n1 (by omega) (by omega))) <| .p (does_c (lsize_ok n1 (by omega) (by omega))) <| .a 2 2 <| .p (does_c (llof_ok d1 (by omega) (by omega))) <|
        .p (does_c (lcommon_ok (n1.natAbs : Int) d1 (by omega) (by omega) (by omega) (by omega))) <| .p (does_c (llof_ok 1 (by decide) (by decide))) <|
        .p (does_e (decide (Nat.gcd n1.natAbs d1.natAbs = 1)) ((show (((Sp.dgt (Int.gcd (n1.natAbs : Int) d1 : Int) 0) == (Sp.dgt 1 0)) && (((Sp.dgt (Int.gcd (n1.natAbs : Int) d1 : Int) 1) == (Sp.dgt 1 1)) && (((Sp.dgt (Int.gcd (n1.natAbs : Int) d1 : Int) 2) == (Sp.dgt 1 2)) && (((Sp.dgt (Int.gcd (n1.natAbs : Int) d1 : Int) 3) == (Sp.dgt 1 3)) && (((Sp.dgt (Int.gcd (n1.natAbs : Int) d1 : Int) 4) == (Sp.dgt 1 4)) && (((Sp.dgt (Int.gcd (n1.natAbs : Int) d1 : Int) 5) == (Sp.dgt 1 5)) && (((Sp.dgt (Int.gcd (n1.natAbs : Int) d1 : Int) 6) == (Sp.dgt 1 6)) && true))))))) = (decide (Nat.gcd n1.natAbs d1.natAbs = 1)) from Sp.gcd_dig (by omega) zud1))) <|
        .a 2 2 <| .nil _ _) ?_
      refine aw_rt ?_
      exact en_ret [.bool (decide (Nat.gcd n1.natAbs d1.natAbs = 1))] (show (.bool (decide (Nat.gcd n1.natAbs d1.natAbs = 1)) : Value) = (.bool (Sp.gd n1 d1)) from (congrArg Value.bool (show (decide (Nat.gcd n1.natAbs d1.natAbs = 1)) = (Sp.gd n1 d1) from by (simp only [Sp.gd, *, decide_true, decide_false, Bool.true_and, Bool.false_and, Bool.and_false]))))
    · have h2p : ¬ ((-9223372036854775808 < n1)) := by first | (simpa using h2) | (have h2q := h2; simp at h2q; omega) | (have h2q := bx2 h2; simp at h2q; omega)
      refine aw_d 7 (
        .a 2 2 <| .p (does_b true ((rfl).trans (h1))) <| .a 3 2 <| .p (does_b false ((Sp.neq_min zln1).trans (h2))) <| .a 14 2 <| .nil _ _) ?_
      refine aw_rt ?_
      exact en_ret [.bool false] (show (.bool false : Value) = (.bool (Sp.gd n1 d1)) from (congrArg Value.bool (show false = (Sp.gd n1 d1) from by (simp only [Sp.gd, *, decide_true, decide_false, Bool.true_and, Bool.false_and, Bool.and_false]))))
  · have h1p : ¬ ((0 < d1)) := by first | (simpa using h1) | (have h1q := h1; simp at h1q; omega) | (have h1q := bx2 h1; simp at h1q; omega)
    refine aw_d 7 (
      .a 2 2 <| .p (does_b false ((rfl).trans (h1))) <| .a 18 2 <| .nil _ _) ?_
    refine aw_rt ?_
    exact en_ret [.bool false] (show (.bool false : Value) = (.bool (Sp.gd n1 d1)) from (congrArg Value.bool (show false = (Sp.gd n1 d1) from by (simp only [Sp.gd, *, decide_true, decide_false, Bool.true_and, Bool.false_and, Bool.and_false]))))

theorem rpair_ok (n1 d1 : Int) (zln1 : -9223372036854775808 ≤ n1) (zun1 : n1 ≤ 9223372036854775807) (zld1 : -9223372036854775808 ≤ d1) (zud1 : d1 ≤ 9223372036854775807) :
    AC Try.prog 26 0 ([.agg #[.int .i64 n1, .int .i64 d1]]) [] (.tuple #[lval (Sp.fn n1 d1), lval (Sp.fd n1 d1)]) [] := by
  refine ac_in Try.func26 (fun w0 W pin => ?_)
  refine aw_p 3 (
    .a 3 1 <| .nil _ _) ?_
  refine aw_sq 6 7 ?_
  refine aw_p 13 (
    .a 1 4 <| .p (does_c (rfit_ok n1 d1 (by omega) (by omega) (by omega) (by omega))) <| .a 1 4 <| .nil _ _) ?_
  refine aw_cd 26 27 (!(Sp.gd n1 d1)) (fun h1 => ?_) (fun h1 => ?_)
  · have h1p : ¬ (Sp.gd n1 d1) = true := by simpa using h1
    refine aw_p 53 (
      .a 1 4 <| .p (does_c (llof_ok 1 (by decide) (by decide))) <| .a 2 4 <| .nil _ _) ?_
    refine aw_rt ?_
    refine then_ret ?_
    exact en_ret [.agg #[.int .u64 0, .int .u64 0, .int .u64 0, .int .u64 0, .int .u64 0, .int .u64 0, .int .u64 0], lval (1)] (show (.tuple #[.agg #[.int .u64 0, .int .u64 0, .int .u64 0, .int .u64 0, .int .u64 0, .int .u64 0, .int .u64 0], lval (1)] : Value) = (.tuple #[lval (Sp.fn n1 d1), lval (Sp.fd n1 d1)]) from (congrArg (fun z : List Value => Value.tuple z.toArray) (lcons (congrArg (fun z : List Value => Value.agg z.toArray) (lcons (congrArg (Value.int .u64) (show 0 = (Sp.dgt (Sp.fn n1 d1) 0) from by (first | (rw [Sp.fn_no h1p]; first | done | decide +kernel) | (rw [Sp.fd_no h1p]; first | done | decide +kernel) | (rw [Sp.fn_yes h1p]) | (rw [Sp.fd_yes h1p])))) (lcons (congrArg (Value.int .u64) (show 0 = (Sp.dgt (Sp.fn n1 d1) 1) from by (first | (rw [Sp.fn_no h1p]; first | done | decide +kernel) | (rw [Sp.fd_no h1p]; first | done | decide +kernel) | (rw [Sp.fn_yes h1p]) | (rw [Sp.fd_yes h1p])))) (lcons (congrArg (Value.int .u64) (show 0 = (Sp.dgt (Sp.fn n1 d1) 2) from by (first | (rw [Sp.fn_no h1p]; first | done | decide +kernel) | (rw [Sp.fd_no h1p]; first | done | decide +kernel) | (rw [Sp.fn_yes h1p]) | (rw [Sp.fd_yes h1p])))) (lcons (congrArg (Value.int .u64) (show 0 = (Sp.dgt (Sp.fn n1 d1) 3) from by (first | (rw [Sp.fn_no h1p]; first | done | decide +kernel) | (rw [Sp.fd_no h1p]; first | done | decide +kernel) | (rw [Sp.fn_yes h1p]) | (rw [Sp.fd_yes h1p])))) (lcons (congrArg (Value.int .u64) (show 0 = (Sp.dgt (Sp.fn n1 d1) 4) from by (first | (rw [Sp.fn_no h1p]; first | done | decide +kernel) | (rw [Sp.fd_no h1p]; first | done | decide +kernel) | (rw [Sp.fn_yes h1p]) | (rw [Sp.fd_yes h1p])))) (lcons (congrArg (Value.int .u64) (show 0 = (Sp.dgt (Sp.fn n1 d1) 5) from by (first | (rw [Sp.fn_no h1p]; first | done | decide +kernel) | (rw [Sp.fd_no h1p]; first | done | decide +kernel) | (rw [Sp.fn_yes h1p]) | (rw [Sp.fd_yes h1p])))) (lcons (congrArg (Value.int .u64) (show 0 = (Sp.dgt (Sp.fn n1 d1) 6) from by (first | (rw [Sp.fn_no h1p]; first | done | decide +kernel) | (rw [Sp.fd_no h1p]; first | done | decide +kernel) | (rw [Sp.fn_yes h1p]) | (rw [Sp.fd_yes h1p])))) rfl)))))))) (lcons (congrArg (fun z : List Value => Value.agg z.toArray) (lcons (congrArg (Value.int .u64) (show (Sp.dgt 1 0) = (Sp.dgt (Sp.fd n1 d1) 0) from by (first | (rw [Sp.fn_no h1p]; first | done | decide +kernel) | (rw [Sp.fd_no h1p]; first | done | decide +kernel) | (rw [Sp.fn_yes h1p]) | (rw [Sp.fd_yes h1p])))) (lcons (congrArg (Value.int .u64) (show (Sp.dgt 1 1) = (Sp.dgt (Sp.fd n1 d1) 1) from by (first | (rw [Sp.fn_no h1p]; first | done | decide +kernel) | (rw [Sp.fd_no h1p]; first | done | decide +kernel) | (rw [Sp.fn_yes h1p]) | (rw [Sp.fd_yes h1p])))) (lcons (congrArg (Value.int .u64) (show (Sp.dgt 1 2) = (Sp.dgt (Sp.fd n1 d1) 2) from by (first | (rw [Sp.fn_no h1p]; first | done | decide +kernel) | (rw [Sp.fd_no h1p]; first | done | decide +kernel) | (rw [Sp.fn_yes h1p]) | (rw [Sp.fd_yes h1p])))) (lcons (congrArg (Value.int .u64) (show (Sp.dgt 1 3) = (Sp.dgt (Sp.fd n1 d1) 3) from by (first | (rw [Sp.fn_no h1p]; first | done | decide +kernel) | (rw [Sp.fd_no h1p]; first | done | decide +kernel) | (rw [Sp.fn_yes h1p]) | (rw [Sp.fd_yes h1p])))) (lcons (congrArg (Value.int .u64) (show (Sp.dgt 1 4) = (Sp.dgt (Sp.fd n1 d1) 4) from by (first | (rw [Sp.fn_no h1p]; first | done | decide +kernel) | (rw [Sp.fd_no h1p]; first | done | decide +kernel) | (rw [Sp.fn_yes h1p]) | (rw [Sp.fd_yes h1p])))) (lcons (congrArg (Value.int .u64) (show (Sp.dgt 1 5) = (Sp.dgt (Sp.fd n1 d1) 5) from by (first | (rw [Sp.fn_no h1p]; first | done | decide +kernel) | (rw [Sp.fd_no h1p]; first | done | decide +kernel) | (rw [Sp.fn_yes h1p]) | (rw [Sp.fd_yes h1p])))) (lcons (congrArg (Value.int .u64) (show (Sp.dgt 1 6) = (Sp.dgt (Sp.fd n1 d1) 6) from by (first | (rw [Sp.fn_no h1p]; first | done | decide +kernel) | (rw [Sp.fd_no h1p]; first | done | decide +kernel) | (rw [Sp.fn_yes h1p]) | (rw [Sp.fd_yes h1p])))) rfl)))))))) rfl))))
  · have h1p : (Sp.gd n1 d1) = true := by simpa using h1
    refine aw_sk ?_
    refine then_normal ?_
    refine aw_d 15 (
      .a 2 4 <| .p (does_c (llof_ok n1 (by omega) (by omega))) <| .a 2 4 <| .p (does_c (llof_ok d1 (by omega) (by omega))) <| .a 2 4 <| .nil _ _) ?_
    refine aw_rt ?_
    exact en_ret [lval n1, lval d1] (show (.tuple #[lval n1, lval d1] : Value) = (.tuple #[lval (Sp.fn n1 d1), lval (Sp.fd n1 d1)]) from (congrArg (fun z : List Value => Value.tuple z.toArray) (lcons (congrArg (fun z : List Value => Value.agg z.toArray) (lcons (congrArg (Value.int .u64) (show (Sp.dgt n1 0) = (Sp.dgt (Sp.fn n1 d1) 0) from by (first | (rw [Sp.fn_no h1p]; first | done | decide +kernel) | (rw [Sp.fd_no h1p]; first | done | decide +kernel) | (rw [Sp.fn_yes h1p]) | (rw [Sp.fd_yes h1p])))) (lcons (congrArg (Value.int .u64) (show (Sp.dgt n1 1) = (Sp.dgt (Sp.fn n1 d1) 1) from by (first | (rw [Sp.fn_no h1p]; first | done | decide +kernel) | (rw [Sp.fd_no h1p]; first | done | decide +kernel) | (rw [Sp.fn_yes h1p]) | (rw [Sp.fd_yes h1p])))) (lcons (congrArg (Value.int .u64) (show (Sp.dgt n1 2) = (Sp.dgt (Sp.fn n1 d1) 2) from by (first | (rw [Sp.fn_no h1p]; first | done | decide +kernel) | (rw [Sp.fd_no h1p]; first | done | decide +kernel) | (rw [Sp.fn_yes h1p]) | (rw [Sp.fd_yes h1p])))) (lcons (congrArg (Value.int .u64) (show (Sp.dgt n1 3) = (Sp.dgt (Sp.fn n1 d1) 3) from by (first | (rw [Sp.fn_no h1p]; first | done | decide +kernel) | (rw [Sp.fd_no h1p]; first | done | decide +kernel) | (rw [Sp.fn_yes h1p]) | (rw [Sp.fd_yes h1p])))) (lcons (congrArg (Value.int .u64) (show (Sp.dgt n1 4) = (Sp.dgt (Sp.fn n1 d1) 4) from by (first | (rw [Sp.fn_no h1p]; first | done | decide +kernel) | (rw [Sp.fd_no h1p]; first | done | decide +kernel) | (rw [Sp.fn_yes h1p]) | (rw [Sp.fd_yes h1p])))) (lcons (congrArg (Value.int .u64) (show (Sp.dgt n1 5) = (Sp.dgt (Sp.fn n1 d1) 5) from by (first | (rw [Sp.fn_no h1p]; first | done | decide +kernel) | (rw [Sp.fd_no h1p]; first | done | decide +kernel) | (rw [Sp.fn_yes h1p]) | (rw [Sp.fd_yes h1p])))) (lcons (congrArg (Value.int .u64) (show (Sp.dgt n1 6) = (Sp.dgt (Sp.fn n1 d1) 6) from by (first | (rw [Sp.fn_no h1p]; first | done | decide +kernel) | (rw [Sp.fd_no h1p]; first | done | decide +kernel) | (rw [Sp.fn_yes h1p]) | (rw [Sp.fd_yes h1p])))) rfl)))))))) (lcons (congrArg (fun z : List Value => Value.agg z.toArray) (lcons (congrArg (Value.int .u64) (show (Sp.dgt d1 0) = (Sp.dgt (Sp.fd n1 d1) 0) from by (first | (rw [Sp.fn_no h1p]; first | done | decide +kernel) | (rw [Sp.fd_no h1p]; first | done | decide +kernel) | (rw [Sp.fn_yes h1p]) | (rw [Sp.fd_yes h1p])))) (lcons (congrArg (Value.int .u64) (show (Sp.dgt d1 1) = (Sp.dgt (Sp.fd n1 d1) 1) from by (first | (rw [Sp.fn_no h1p]; first | done | decide +kernel) | (rw [Sp.fd_no h1p]; first | done | decide +kernel) | (rw [Sp.fn_yes h1p]) | (rw [Sp.fd_yes h1p])))) (lcons (congrArg (Value.int .u64) (show (Sp.dgt d1 2) = (Sp.dgt (Sp.fd n1 d1) 2) from by (first | (rw [Sp.fn_no h1p]; first | done | decide +kernel) | (rw [Sp.fd_no h1p]; first | done | decide +kernel) | (rw [Sp.fn_yes h1p]) | (rw [Sp.fd_yes h1p])))) (lcons (congrArg (Value.int .u64) (show (Sp.dgt d1 3) = (Sp.dgt (Sp.fd n1 d1) 3) from by (first | (rw [Sp.fn_no h1p]; first | done | decide +kernel) | (rw [Sp.fd_no h1p]; first | done | decide +kernel) | (rw [Sp.fn_yes h1p]) | (rw [Sp.fd_yes h1p])))) (lcons (congrArg (Value.int .u64) (show (Sp.dgt d1 4) = (Sp.dgt (Sp.fd n1 d1) 4) from by (first | (rw [Sp.fn_no h1p]; first | done | decide +kernel) | (rw [Sp.fd_no h1p]; first | done | decide +kernel) | (rw [Sp.fn_yes h1p]) | (rw [Sp.fd_yes h1p])))) (lcons (congrArg (Value.int .u64) (show (Sp.dgt d1 5) = (Sp.dgt (Sp.fd n1 d1) 5) from by (first | (rw [Sp.fn_no h1p]; first | done | decide +kernel) | (rw [Sp.fd_no h1p]; first | done | decide +kernel) | (rw [Sp.fn_yes h1p]) | (rw [Sp.fd_yes h1p])))) (lcons (congrArg (Value.int .u64) (show (Sp.dgt d1 6) = (Sp.dgt (Sp.fd n1 d1) 6) from by (first | (rw [Sp.fn_no h1p]; first | done | decide +kernel) | (rw [Sp.fd_no h1p]; first | done | decide +kernel) | (rw [Sp.fn_yes h1p]) | (rw [Sp.fd_yes h1p])))) rfl)))))))) rfl))))

theorem rdown_ok (n1 d1 : Int) (zln1 : -9223372036854775808 ≤ n1) (zun1 : n1 ≤ 9223372036854775807) (zld1 : -9223372036854775808 ≤ d1) (zud1 : d1 ≤ 9223372036854775807) :
    AC Try.prog 27 0 ([.agg #[.int .i64 n1, .int .i64 d1]]) [] (.int .i64 ((Sp.rv n1 d1).floor)) [] := by
  have fn1 := Sp.fn_bd (d := d1) zln1 zun1; have fd1 := Sp.fd_bd (n := n1) zud1; have e0 := Sp.ediv_bd (x := Sp.fn n1 d1) (y := Sp.fd n1 d1) (M := 9223372036854775807) (by omega) (by omega) (by omega); have e1 := Sp.ceil_eq (x := Sp.fn n1 d1) (y := Sp.fd n1 d1) (by omega)
  refine ac_in Try.func27 (fun w0 W pin => ?_)
  refine aw_p 3 (
    .a 2 1 <| .nil _ _) ?_
  refine aw_p 7 (
    .a 1 2 <| .p (does_c (rpair_ok n1 d1 (by omega) (by omega) (by omega) (by omega))) <| .a 7 2 <| .nil _ _) ?_
  refine aw_sq 14 15 ?_
  refine aw_p 29 (
    .a 1 4 <| .p (does_c (lsign_ok (Sp.fn n1 d1) (by omega) (by omega))) <| .p (does_b (decide (Sp.fn n1 d1 < 0)) (Sp.sgn_lt _)) <| .nil _ _) ?_
  refine aw_cd 58 59 (decide (Sp.fn n1 d1 < 0)) (fun h1 => ?_) (fun h1 => ?_)
  · have h1p : ((Sp.fn n1 d1 < 0)) := by first | (simpa using h1) | (have h1q := h1; simp at h1q; omega) | (have h1q := bx1 h1; simp at h1q; omega)
    refine aw_d 117 (
      .a 1 4 <| .p (does_c (lneg_ok (Sp.fn n1 d1))) <| .a 1 4 <| .p (does_c (lplus_ok (-(Sp.fn n1 d1)) (Sp.fd n1 d1))) <| .p (does_c (llof_ok 1 (by decide) (by decide))) <| .p (does_c (lminus_ok ((-(Sp.fn n1 d1)) + (Sp.fd n1 d1)) 1)) <| .a 1 4 <|
      .p (does_c (lshare_ok (((-(Sp.fn n1 d1)) + (Sp.fd n1 d1)) - 1) (Sp.fd n1 d1) (by omega) (by omega) (by omega) (by omega))) <| .a 7 4 <| .nil _ _) ?_
    refine aw_p 235 (
      .a 1 6 <| .p (does_c (lneg_ok ((((-(Sp.fn n1 d1)) + (Sp.fd n1 d1)) - 1) / (Sp.fd n1 d1)))) <| .p (does_c (lshort_ok (-((((-(Sp.fn n1 d1)) + (Sp.fd n1 d1)) - 1) / (Sp.fd n1 d1))) (by omega) (by omega))) <| .a 5 6 <| .nil _ _) ?_
    refine aw_p 471 (
      .a 2 6 <| .nil _ _) ?_
    refine aw_rt ?_
    refine then_ret ?_
    exact en_ret [.int .i64 (Sp.s64 (-((((-(Sp.fn n1 d1)) + (Sp.fd n1 d1)) - 1) / (Sp.fd n1 d1))))] (show (.int .i64 (Sp.s64 (-((((-(Sp.fn n1 d1)) + (Sp.fd n1 d1)) - 1) / (Sp.fd n1 d1)))) : Value) = (.int .i64 ((Sp.rv n1 d1).floor)) from (congrArg (Value.int .i64) (show (Sp.s64 (-((((-(Sp.fn n1 d1)) + (Sp.fd n1 d1)) - 1) / (Sp.fd n1 d1)))) = ((Sp.rv n1 d1).floor) from by (first | exact Sp.down_neg zln1 zun1 | exact Sp.down_pos zln1 zun1))))
  · have h1p : ¬ ((Sp.fn n1 d1 < 0)) := by first | (simpa using h1) | (have h1q := h1; simp at h1q; omega) | (have h1q := bx2 h1; simp at h1q; omega)
    refine aw_sk ?_
    refine then_normal ?_
    refine aw_p 31 (
      .a 2 4 <| .p (does_c (lshare_ok (Sp.fn n1 d1) (Sp.fd n1 d1) (by omega) (by omega) (by omega) (by omega))) <| .a 7 4 <| .nil _ _) ?_
    refine aw_p 63 (
      .a 1 6 <| .p (does_c (lshort_ok ((Sp.fn n1 d1) / (Sp.fd n1 d1)) (by omega) (by omega))) <| .a 5 6 <| .nil _ _) ?_
    refine aw_p 127 (
      .a 2 6 <| .nil _ _) ?_
    refine aw_rt ?_
    exact en_ret [.int .i64 (Sp.s64 ((Sp.fn n1 d1) / (Sp.fd n1 d1)))] (show (.int .i64 (Sp.s64 ((Sp.fn n1 d1) / (Sp.fd n1 d1))) : Value) = (.int .i64 ((Sp.rv n1 d1).floor)) from (congrArg (Value.int .i64) (show (Sp.s64 ((Sp.fn n1 d1) / (Sp.fd n1 d1))) = ((Sp.rv n1 d1).floor) from by (first | exact Sp.down_neg zln1 zun1 | exact Sp.down_pos zln1 zun1))))


end Go.Proofs.Ytigllakcfdoagaa.Am
