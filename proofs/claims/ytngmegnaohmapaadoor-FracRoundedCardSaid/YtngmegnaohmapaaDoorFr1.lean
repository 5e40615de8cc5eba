/-
  The walks of fractions of the document.
-/
import Derived.Test.YtngmegnaohmapaaDoorProg
import Derived.Test.YtngmegnaohmapaaDoorAm16
import Derived.Test.YtngmegnaohmapaaDoorLn2
import Derived.Test.YtngmegnaohmapaaDoorNc7
namespace Go.Proofs.YtngmegnaohmapaaDoor.Am
open Go Go.Proofs
set_option maxRecDepth 100000
set_option maxHeartbeats 4000000
set_option linter.unusedVariables false
set_option linter.unusedSimpArgs false

theorem rfit_ok (n1 d1 : Int) (zln1 : -9223372036854775808 ≤ n1) (zun1 : n1 ≤ 9223372036854775807) (zld1 : -9223372036854775808 ≤ d1) (zud1 : d1 ≤ 9223372036854775807) :
    AC Tryd.prog 23 0 ([.agg #[.int .i64 n1, .int .i64 d1]]) [] (.bool (Sp.gd n1 d1)) [] := by
  refine ac_in Tryd.func23 (fun w0 W pin => ?_)
  refine aw_p 3 (
    .a 2 1 <| .nil _ _) ?_
  rcases Bool.eq_false_or_eq_true (decide (0 < d1)) with h1 | h1
  · have h1p : ((0 < d1)) := by first | (simpa using h1) | (have h1q := h1; simp at h1q; omega) | (have h1q := bx1 h1; simp at h1q; omega)
    rcases Bool.eq_false_or_eq_true (decide (-9223372036854775808 < n1)) with h2 | h2
    · have h2p : ((-9223372036854775808 < n1)) := by first | (simpa using h2) | (have h2q := h2; simp at h2q; omega) | (have h2q := bx1 h2; simp at h2q; omega)
      refine aw_d 7 (
        .a 2 2 <| .p (does_b true ((rfl).trans (h1))) <| .a 3 2 <| .p (does_b true ((Sp.neq_min zln1).trans (h2))) <| .a 4 2 <| .p (does_c (llof_ok n1 (by omega) (by omega))) <| .p (does_c (lsize_ok n1 (by omega) (by omega))) <| .a 2 2 <| .p (does_c (llof_ok d1 (by omega) (by omega))) <|
        .p (does_c (lcommon_ok (n1.natAbs : Int) d1 (by omega) (by omega) (by omega) (by omega))) <| .p (does_c (llof_ok 1 (by decide) (by decide))) <|
        .p (does_e (decide (Nat.gcd n1.natAbs d1.natAbs = 1)) ((show (((Sp.dgt (Int.gcd (n1.natAbs : Int) d1 : Int) 0) == (Sp.dgt 1 0)) && (((Sp.dgt (Int.gcd (n1.natAbs : Int) d1 : Int) 1) == (Sp.dgt 1 1)) && (((Sp.dgt (Int.gcd (n1.natAbs : Int) d1 : Int) 2) == (Sp.dgt 1 2)) && (((Sp.dgt (Int.gcd (n1.natAbs : Int) d1 : Int) 3) == (Sp.dgt 1 3)) && (((Sp.dgt (Int.gcd (n1.natAbs : Int) d1 : Int) 4) == (Sp.dgt 1 4)) && (((Sp.dgt (Int.gcd (n1.natAbs : Int) d1 : Int) 5) == (Sp.dgt 1 5)) && (((Sp.dgt (Int.gcd (n1.natAbs : Int) d1 : Int) 6) == (Sp.dgt 1 6)) && true))))))) = (decide (Nat.gcd n1.natAbs d1.natAbs = 1)) from Sp.gcd_dig (by omega) zud1))) <|
        .a 2 2 <| .nil _ _) ?_
      refine aw_rt ?_
      exact en_ret [.bool (decide (Nat.gcd n1.natAbs d1.natAbs = 1))] (show (.bool (decide (Nat.gcd n1.natAbs d1.natAbs = 1)) : Value) = (.bool (Sp.gd n1 d1)) from (congrArg Value.bool (show (decide (Nat.gcd n1.natAbs d1.natAbs = 1)) = (Sp.gd n1 d1) from by (simp only [Sp.gd, *, decide_true, decide_false, Bool.true_and, Bool.false_and, Bool.and_false]))))
    · have h2p : ¬ ((-9223372036854775808 < n1)) := by first | (simpa using h2) | (have h2q := h2; simp at h2q; omega) | (have h2q := bx2 h2; simp at h2q; omega)
      refine aw_d 7 (
        .a 2 2 <| .p (does_b true ((rfl).trans (h1))) <| .a 3 2 <| .p (does_b false ((Sp.neq_min zln1).trans (h2))) <| .a 14 2 <| .nil _ _) ?_
      refine aw_rt ?_
      exact en_ret [.bool false] (show (.bool false : Value) = (.bool (Sp.gd n1 d1)) from (congrArg Value.bool (show false = (Sp.gd n1 d1) from by (simp only [Sp.gd, *, decide_true, decide_false, Bool.true_and, Bool.false_and, Bool.and_false]))))
  · have h1p : ¬ ((0 < d1)) := by first | (simpa using h1) | (have h1q := h1; simp at h1q; omega) | (have h1q := bx2 h1; simp at h1q; omega)
    refine aw_d 7 (
      .a 2 2 <| .p (does_b false ((rfl).trans (h1))) <| .a 18 2 <| .nil _ _) ?_
    refine aw_rt ?_
    exact en_ret [.bool false] (show (.bool false : Value) = (.bool (Sp.gd n1 d1)) from (congrArg Value.bool (show false = (Sp.gd n1 d1) from by (simp only [Sp.gd, *, decide_true, decide_false, Bool.true_and, Bool.false_and, Bool.and_false]))))

theorem rpair_ok (n1 d1 : Int) (zln1 : -9223372036854775808 ≤ n1) (zun1 : n1 ≤ 9223372036854775807) (zld1 : -9223372036854775808 ≤ d1) (zud1 : d1 ≤ 9223372036854775807) :
    AC Tryd.prog 6 0 ([.agg #[.int .i64 n1, .int .i64 d1]]) [] (.tuple #[lval (Sp.fn n1 d1), lval (Sp.fd n1 d1)]) [] := by
  refine ac_in Tryd.func6 (fun w0 W pin => ?_)
  refine aw_p 3 (
    .a 3 1 <| .nil _ _) ?_
  refine aw_sq 6 7 ?_
  refine aw_p 13 (
    .a 1 4 <| .p (does_c (rfit_ok n1 d1 (by omega) (by omega) (by omega) (by omega))) <| .a 1 4 <| .nil _ _) ?_
  refine aw_cd 26 27 (!(Sp.gd n1 d1)) (fun h1 => ?_) (fun h1 => ?_)
  · have h1p : ¬ (Sp.gd n1 d1) = true := by simpa using h1
    refine aw_p 53 (
      .a 1 4 <| .p (does_c (llof_ok 1 (by decide) (by decide))) <| .a 2 4 <| .nil _ _) ?_
    refine aw_rt ?_
    refine then_ret ?_
    exact en_ret [.agg #[.int .u64 0, .int .u64 0, .int .u64 0, .int .u64 0, .int .u64 0, .int .u64 0, .int .u64 0], lval (1)] (show (.tuple #[.agg #[.int .u64 0, .int .u64 0, .int .u64 0, .int .u64 0, .int .u64 0, .int .u64 0, .int .u64 0], lval (1)] : Value) = (.tuple #[lval (Sp.fn n1 d1), lval (Sp.fd n1 d1)]) from (congrArg (fun z : List Value => Value.tuple z.toArray) (lcons (congrArg (fun z : List Value => Value.agg z.toArray) (lcons (congrArg (Value.int .u64) (show 0 = (Sp.dgt (Sp.fn n1 d1) 0) from by (first | (rw [Sp.fn_no h1p]; first | done | decide +kernel) | (rw [Sp.fd_no h1p]; first | done | decide +kernel) | (rw [Sp.fn_yes h1p]) | (rw [Sp.fd_yes h1p])))) (lcons (congrArg (Value.int .u64) (show 0 = (Sp.dgt (Sp.fn n1 d1) 1) from by (first | (rw [Sp.fn_no h1p]; first | done | decide +kernel) | (rw [Sp.fd_no h1p]; first | done | decide +kernel) | (rw [Sp.fn_yes h1p]) | (rw [Sp.fd_yes h1p])))) (lcons (congrArg (Value.int .u64) (show 0 = (Sp.dgt (Sp.fn n1 d1) 2) from by (first | (rw [Sp.fn_no h1p]; first | done | decide +kernel) | (rw [Sp.fd_no h1p]; first | done | decide +kernel) | (rw [Sp.fn_yes h1p]) | (rw [Sp.fd_yes h1p])))) (lcons (congrArg (Value.int .u64) (show 0 = (Sp.dgt (Sp.fn n1 d1) 3) from by (first | (rw [Sp.fn_no h1p]; first | done | decide +kernel) | (rw [Sp.fd_no h1p]; first | done | decide +kernel) | (rw [Sp.fn_yes h1p]) | (rw [Sp.fd_yes h1p])))) (lcons (congrArg (Value.int .u64) (show 0 = (Sp.dgt (Sp.fn n1 d1) 4) from by (first | (rw [Sp.fn_no h1p]; first | done | decide +kernel) | (rw [Sp.fd_no h1p]; first | done | decide +kernel) | (rw [Sp.fn_yes h1p]) | (rw [Sp.fd_yes h1p])))) (lcons (congrArg (Value.int .u64) (show 0 = (Sp.dgt (Sp.fn n1 d1) 5) from by (first | (rw [Sp.fn_no h1p]; first | done | decide +kernel) | (rw [Sp.fd_no h1p]; first | done | decide +kernel) | (rw [Sp.fn_yes h1p]) | (rw [Sp.fd_yes h1p])))) (lcons (congrArg (Value.int .u64) (show 0 = (Sp.dgt (Sp.fn n1 d1) 6) from by (first | (rw [Sp.fn_no h1p]; first | done | decide +kernel) | (rw [Sp.fd_no h1p]; first | done | decide +kernel) | (rw [Sp.fn_yes h1p]) | (rw [Sp.fd_yes h1p])))) rfl)))))))) (lcons (congrArg (fun z : List Value => Value.agg z.toArray) (lcons (congrArg (Value.int .u64) (show (Sp.dgt 1 0) = (Sp.dgt (Sp.fd n1 d1) 0) from by (first | (rw [Sp.fn_no h1p]; first | done | decide +kernel) | (rw [Sp.fd_no h1p]; first | done | decide +kernel) | (rw [Sp.fn_yes h1p]) | (rw [Sp.fd_yes h1p])))) (lcons (congrArg (Value.int .u64) (show (Sp.dgt 1 1) = (Sp.dgt (Sp.fd n1 d1) 1) from by (first | (rw [Sp.fn_no h1p]; first | done | decide +kernel) | (rw [Sp.fd_no h1p]; first | done | decide +kernel) | (rw [Sp.fn_yes h1p]) | (rw [Sp.fd_yes h1p])))) (lcons (congrArg (Value.int .u64) (show (Sp.dgt 1 2) = (Sp.dgt (Sp.fd n1 d1) 2) from by (first | (rw [Sp.fn_no h1p]; first | done | decide +kernel) | (rw [Sp.fd_no h1p]; first | done | decide +kernel) | (rw [Sp.fn_yes h1p]) | (rw [Sp.fd_yes h1p])))) (lcons (congrArg (Value.int .u64) (show (Sp.dgt 1 3) = (Sp.dgt (Sp.fd n1 d1) 3) from by (first | (rw [Sp.fn_no h1p]; first | done | decide +kernel) | (rw [Sp.fd_no h1p]; first | done | decide +kernel) | (rw [Sp.fn_yes h1p]) | (rw [Sp.fd_yes h1p])))) (lcons (congrArg (Value.int .u64) (show (Sp.dgt 1 4) = (Sp.dgt (Sp.fd n1 d1) 4) from by (first | (rw [Sp.fn_no h1p]; first | done | decide +kernel) | (rw [Sp.fd_no h1p]; first | done | decide +kernel) | (rw [Sp.fn_yes h1p]) | (rw [Sp.fd_yes h1p])))) (lcons (congrArg (Value.int .u64) (show (Sp.dgt 1 5) = (Sp.dgt (Sp.fd n1 d1) 5) from by (first | (rw [Sp.fn_no h1p]; first | done | decide +kernel) | (rw [Sp.fd_no h1p]; first | done | decide +kernel) | (rw [Sp.fn_yes h1p]) | (rw [Sp.fd_yes h1p])))) (lcons (congrArg (Value.int .u64) (show (Sp.dgt 1 6) = (Sp.dgt (Sp.fd n1 d1) 6) from by (first | (rw [Sp.fn_no h1p]; first | done | decide +kernel) | (rw [Sp.fd_no h1p]; first | done | decide +kernel) | (rw [Sp.fn_yes h1p]) | (rw [Sp.fd_yes h1p])))) rfl)))))))) rfl))))
  · have h1p : (Sp.gd n1 d1) = true := by simpa using h1
    refine aw_sk ?_
    refine then_normal ?_
    refine aw_d 15 (
      .a 2 4 <| .p (does_c (llof_ok n1 (by omega) (by omega))) <| .a 2 4 <| .p (does_c (llof_ok d1 (by omega) (by omega))) <| .a 2 4 <| .nil _ _) ?_
    refine aw_rt ?_
    exact en_ret [lval n1, lval d1] (show (.tuple #[lval n1, lval d1] : Value) = (.tuple #[lval (Sp.fn n1 d1), lval (Sp.fd n1 d1)]) from (congrArg (fun z : List Value => Value.tuple z.toArray) (lcons (congrArg (fun z : List Value => Value.agg z.toArray) (lcons (congrArg (Value.int .u64) (show (Sp.dgt n1 0) = (Sp.dgt (Sp.fn n1 d1) 0) from by (first | (rw [Sp.fn_no h1p]; first | done | decide +kernel) | (rw [Sp.fd_no h1p]; first | done | decide +kernel) | (rw [Sp.fn_yes h1p]) | (rw [Sp.fd_yes h1p])))) (lcons (congrArg (Value.int .u64) (show (Sp.dgt n1 1) = (Sp.dgt (Sp.fn n1 d1) 1) from by (first | (rw [Sp.fn_no h1p]; first | done | decide +kernel) | (rw [Sp.fd_no h1p]; first | done | decide +kernel) | (rw [Sp.fn_yes h1p]) | (rw [Sp.fd_yes h1p])))) (lcons (congrArg (Value.int .u64) (show (Sp.dgt n1 2) = (Sp.dgt (Sp.fn n1 d1) 2) from by (first | (rw [Sp.fn_no h1p]; first | done | decide +kernel) | (rw [Sp.fd_no h1p]; first | done | decide +kernel) | (rw [Sp.fn_yes h1p]) | (rw [Sp.fd_yes h1p])))) (lcons (congrArg (Value.int .u64) (show (Sp.dgt n1 3) = (Sp.dgt (Sp.fn n1 d1) 3) from by (first | (rw [Sp.fn_no h1p]; first | done | decide +kernel) | (rw [Sp.fd_no h1p]; first | done | decide +kernel) | (rw [Sp.fn_yes h1p]) | (rw [Sp.fd_yes h1p])))) (lcons (congrArg (Value.int .u64) (show (Sp.dgt n1 4) = (Sp.dgt (Sp.fn n1 d1) 4) from by (first | (rw [Sp.fn_no h1p]; first | done | decide +kernel) | (rw [Sp.fd_no h1p]; first | done | decide +kernel) | (rw [Sp.fn_yes h1p]) | (rw [Sp.fd_yes h1p])))) (lcons (congrArg (Value.int .u64) (show (Sp.dgt n1 5) = (Sp.dgt (Sp.fn n1 d1) 5) from by (first | (rw [Sp.fn_no h1p]; first | done | decide +kernel) | (rw [Sp.fd_no h1p]; first | done | decide +kernel) | (rw [Sp.fn_yes h1p]) | (rw [Sp.fd_yes h1p])))) (lcons (congrArg (Value.int .u64) (show (Sp.dgt n1 6) = (Sp.dgt (Sp.fn n1 d1) 6) from by (first | (rw [Sp.fn_no h1p]; first | done | decide +kernel) | (rw [Sp.fd_no h1p]; first | done | decide +kernel) | (rw [Sp.fn_yes h1p]) | (rw [Sp.fd_yes h1p])))) rfl)))))))) (lcons (congrArg (fun z : List Value => Value.agg z.toArray) (lcons (congrArg (Value.int .u64) (show (Sp.dgt d1 0) = (Sp.dgt (Sp.fd n1 d1) 0) from by (first | (rw [Sp.fn_no h1p]; first | done | decide +kernel) | (rw [Sp.fd_no h1p]; first | done | decide +kernel) | (rw [Sp.fn_yes h1p]) | (rw [Sp.fd_yes h1p])))) (lcons (congrArg (Value.int .u64) (show (Sp.dgt d1 1) = (Sp.dgt (Sp.fd n1 d1) 1) from by (first | (rw [Sp.fn_no h1p]; first | done | decide +kernel) | (rw [Sp.fd_no h1p]; first | done | decide +kernel) | (rw [Sp.fn_yes h1p]) | (rw [Sp.fd_yes h1p])))) (lcons (congrArg (Value.int .u64) (show (Sp.dgt d1 2) = (Sp.dgt (Sp.fd n1 d1) 2) from by (first | (rw [Sp.fn_no h1p]; first | done | decide +kernel) | (rw [Sp.fd_no h1p]; first | done | decide +kernel) | (rw [Sp.fn_yes h1p]) | (rw [Sp.fd_yes h1p])))) (lcons (congrArg (Value.int .u64) (show (Sp.dgt d1 3) = (Sp.dgt (Sp.fd n1 d1) 3) from by (first | (rw [Sp.fn_no h1p]; first | done | decide +kernel) | (rw [Sp.fd_no h1p]; first | done | decide +kernel) | (rw [Sp.fn_yes h1p]) | (rw [Sp.fd_yes h1p])))) (lcons (congrArg (Value.int .u64) (show (Sp.dgt d1 4) = (Sp.dgt (Sp.fd n1 d1) 4) from by (first | (rw [Sp.fn_no h1p]; first | done | decide +kernel) | (rw [Sp.fd_no h1p]; first | done | decide +kernel) | (rw [Sp.fn_yes h1p]) | (rw [Sp.fd_yes h1p])))) (lcons (congrArg (Value.int .u64) (show (Sp.dgt d1 5) = (Sp.dgt (Sp.fd n1 d1) 5) from by (first | (rw [Sp.fn_no h1p]; first | done | decide +kernel) | (rw [Sp.fd_no h1p]; first | done | decide +kernel) | (rw [Sp.fn_yes h1p]) | (rw [Sp.fd_yes h1p])))) (lcons (congrArg (Value.int .u64) (show (Sp.dgt d1 6) = (Sp.dgt (Sp.fd n1 d1) 6) from by (first | (rw [Sp.fn_no h1p]; first | done | decide +kernel) | (rw [Sp.fd_no h1p]; first | done | decide +kernel) | (rw [Sp.fn_yes h1p]) | (rw [Sp.fd_yes h1p])))) rfl)))))))) rfl))))

theorem rreduced_ok (n d : Int) (hn0 : -6739986666787659948666753771754907668409286105635143120275902562304 ≤ n) (hn1 : n ≤ 6739986666787659948666753771754907668409286105635143120275902562304) (hd0 : 0 < d) (hd1 : d ≤ 6739986666787659948666753771754907668409286105635143120275902562304) :
    AC Tryd.prog 50 0 ([lval n, lval d]) [] (.tuple #[.agg #[.int .i64 (Sp.qn (Rat.divInt n d)), .int .i64 (Sp.qd (Rat.divInt n d))], .int .i64 (Sp.qe (Rat.divInt n d))]) [] := by
  have g0 := Sp.gcd_pos (n := (n.natAbs : Int)) hd0; have g1 := Sp.gcd_le (n := (n.natAbs : Int)) hd0; have q0 := Sp.quo_bd (a := (n.natAbs : Int)) (b := (Int.gcd (n.natAbs : Int) d : Int)) (by omega) g0; have q1 := Sp.quo_bd (a := d) (b := (Int.gcd (n.natAbs : Int) d : Int)) (by omega) g0; have s0 := Sp.s64_bd ((n.natAbs : Int) / (Int.gcd (n.natAbs : Int) d : Int)); have s1 := Sp.s64_nn ((n.natAbs : Int) / (Int.gcd (n.natAbs : Int) d : Int))
  refine ac_in Tryd.func50 (fun w0 W pin => ?_)
  refine aw_p 3 (
    .a 4 1 <| .nil _ _) ?_
  refine aw_d 7 (
    .a 1 4 <| .p (does_c (lsize_ok n (by omega) (by omega))) <| .a 1 4 <| .p (does_c (lcommon_ok (n.natAbs : Int) d (by omega) (by omega) (by omega) (by omega))) <| .a 2 4 <| .nil _ _) ?_
  refine aw_d 15 (
    .a 1 5 <| .p (does_c (lsize_ok n (by omega) (by omega))) <| .a 1 5 <| .p (does_c (lshare_ok (n.natAbs : Int) (Int.gcd (n.natAbs : Int) d : Int) (by omega) (by omega) (by omega) (by omega))) <| .a 7 5 <| .nil _ _) ?_
  refine aw_p 31 (
    .a 2 7 <| .p (does_c (lshare_ok d (Int.gcd (n.natAbs : Int) d : Int) (by omega) (by omega) (by omega) (by omega))) <| .a 7 7 <| .nil _ _) ?_
  refine aw_p 63 (
    .a 1 9 <| .p (does_c (lshort_ok ((n.natAbs : Int) / (Int.gcd (n.natAbs : Int) d : Int)) (by omega) (by omega))) <| .a 5 9 <| .nil _ _) ?_
  refine aw_p 127 (
    .a 1 9 <| .p (does_c (lshort_ok (d / (Int.gcd (n.natAbs : Int) d : Int)) (by omega) (by omega))) <| .a 5 9 <| .nil _ _) ?_
  refine aw_sq 254 255 ?_
  rcases Bool.eq_false_or_eq_true (!(Sp.in64 ((n.natAbs : Int) / (Int.gcd (n.natAbs : Int) d : Int)))) with h1 | h1
  · have h1p : ¬ (Sp.in64 ((n.natAbs : Int) / (Int.gcd (n.natAbs : Int) d : Int))) = true := by simpa using h1
    have nA := h1p
    refine aw_p 509 (
      .a 1 9 <| .p (does_b true (h1)) <| .a 4 9 <| .nil _ _) ?_
    refine aw_tr 1018 ?_
    refine aw_p 2037 (
      .a 3 9 <| .nil _ _) ?_
    refine aw_rt ?_
    refine then_ret ?_
    exact en_ret [.agg #[.int .i64 0, .int .i64 0], .int .i64 2] (show (.tuple #[.agg #[.int .i64 0, .int .i64 0], .int .i64 2] : Value) = (.tuple #[.agg #[.int .i64 (Sp.qn (Rat.divInt n d)), .int .i64 (Sp.qd (Rat.divInt n d))], .int .i64 (Sp.qe (Rat.divInt n d))]) from (congrArg (fun z : List Value => Value.tuple z.toArray) (lcons (congrArg (fun z : List Value => Value.agg z.toArray) (lcons (congrArg (Value.int .i64) (show 0 = (Sp.qn (Rat.divInt n d)) from by (first | exact (Sp.red_no hd0 (.inl (Bool.eq_false_iff.2 nA))).1 | exact (Sp.red_no hd0 (.inr (Bool.eq_false_iff.2 nB))).1))) (lcons (congrArg (Value.int .i64) (show 0 = (Sp.qd (Rat.divInt n d)) from by (first | exact (Sp.red_no hd0 (.inl (Bool.eq_false_iff.2 nA))).2.1 | exact (Sp.red_no hd0 (.inr (Bool.eq_false_iff.2 nB))).2.1))) rfl))) (lcons (congrArg (Value.int .i64) (show 2 = (Sp.qe (Rat.divInt n d)) from by (first | exact (Sp.red_no hd0 (.inl (Bool.eq_false_iff.2 nA))).2.2 | exact (Sp.red_no hd0 (.inr (Bool.eq_false_iff.2 nB))).2.2))) rfl))))
  · have h1p : (Sp.in64 ((n.natAbs : Int) / (Int.gcd (n.natAbs : Int) d : Int))) = true := by simpa using h1
    have hA := h1p
    refine aw_p 509 (
      .a 1 9 <| .p (does_b false (h1)) <| .a 4 9 <| .nil _ _) ?_
    refine aw_cd 1018 1019 (!(Sp.in64 (d / (Int.gcd (n.natAbs : Int) d : Int)))) (fun h2 => ?_) (fun h2 => ?_)
    · have h2p : ¬ (Sp.in64 (d / (Int.gcd (n.natAbs : Int) d : Int))) = true := by simpa using h2
      have nB := h2p
      refine aw_p 2037 (
        .a 3 9 <| .nil _ _) ?_
      refine aw_rt ?_
      refine then_ret ?_
      exact en_ret [.agg #[.int .i64 0, .int .i64 0], .int .i64 2] (show (.tuple #[.agg #[.int .i64 0, .int .i64 0], .int .i64 2] : Value) = (.tuple #[.agg #[.int .i64 (Sp.qn (Rat.divInt n d)), .int .i64 (Sp.qd (Rat.divInt n d))], .int .i64 (Sp.qe (Rat.divInt n d))]) from (congrArg (fun z : List Value => Value.tuple z.toArray) (lcons (congrArg (fun z : List Value => Value.agg z.toArray) (lcons (congrArg (Value.int .i64) (show 0 = (Sp.qn (Rat.divInt n d)) from by (first | exact (Sp.red_no hd0 (.inl (Bool.eq_false_iff.2 nA))).1 | exact (Sp.red_no hd0 (.inr (Bool.eq_false_iff.2 nB))).1))) (lcons (congrArg (Value.int .i64) (show 0 = (Sp.qd (Rat.divInt n d)) from by (first | exact (Sp.red_no hd0 (.inl (Bool.eq_false_iff.2 nA))).2.1 | exact (Sp.red_no hd0 (.inr (Bool.eq_false_iff.2 nB))).2.1))) rfl))) (lcons (congrArg (Value.int .i64) (show 2 = (Sp.qe (Rat.divInt n d)) from by (first | exact (Sp.red_no hd0 (.inl (Bool.eq_false_iff.2 nA))).2.2 | exact (Sp.red_no hd0 (.inr (Bool.eq_false_iff.2 nB))).2.2))) rfl))))
    · have h2p : (Sp.in64 (d / (Int.gcd (n.natAbs : Int) d : Int))) = true := by simpa using h2
      have hB := h2p
      refine aw_sk ?_
      refine then_normal ?_
      refine aw_sq 510 511 ?_
      refine aw_p 1021 (
        .a 1 9 <| .p (does_c (lsign_ok n (by omega) (by omega))) <| .p (does_b (decide (n < 0)) (Sp.sgn_lt n)) <| .nil _ _) ?_
      refine aw_cd 2042 2043 (decide (n < 0)) (fun h3 => ?_) (fun h3 => ?_)
      · have h3p : ((n < 0)) := by first | (simpa using h3) | (have h3q := h3; simp at h3q; omega) | (have h3q := bx1 h3; simp at h3q; omega)
        refine aw_p1 (
          .a 1 9 <| .p (does_i (0 - (Sp.s64 ((n.natAbs : Int) / (Int.gcd (n.natAbs : Int) d : Int)))) (wrap_i64 (by have := s1 hA; omega) (by have := s1 hA; omega)) .i64) <| .a 1 9 <| .nil _ _) ?_
        refine then_normal ?_
        refine aw_p 1023 (
          .a 5 9 <| .nil _ _) ?_
        refine aw_rt ?_
        exact en_ret [.agg #[.int .i64 (0 - (Sp.s64 ((n.natAbs : Int) / (Int.gcd (n.natAbs : Int) d : Int)))), .int .i64 (Sp.s64 (d / (Int.gcd (n.natAbs : Int) d : Int)))], .int .i64 0] (show (.tuple #[.agg #[.int .i64 (0 - (Sp.s64 ((n.natAbs : Int) / (Int.gcd (n.natAbs : Int) d : Int)))), .int .i64 (Sp.s64 (d / (Int.gcd (n.natAbs : Int) d : Int)))], .int .i64 0] : Value) = (.tuple #[.agg #[.int .i64 (Sp.qn (Rat.divInt n d)), .int .i64 (Sp.qd (Rat.divInt n d))], .int .i64 (Sp.qe (Rat.divInt n d))]) from (congrArg (fun z : List Value => Value.tuple z.toArray) (lcons (congrArg (fun z : List Value => Value.agg z.toArray) (lcons (congrArg (Value.int .i64) (show (0 - (Sp.s64 ((n.natAbs : Int) / (Int.gcd (n.natAbs : Int) d : Int)))) = (Sp.qn (Rat.divInt n d)) from by exact (Sp.red_yes hd0 hA hB).1 (by omega))) (lcons (congrArg (Value.int .i64) (show (Sp.s64 (d / (Int.gcd (n.natAbs : Int) d : Int))) = (Sp.qd (Rat.divInt n d)) from by exact (Sp.red_yes hd0 hA hB).2.2.1)) rfl))) (lcons (congrArg (Value.int .i64) (show 0 = (Sp.qe (Rat.divInt n d)) from by exact (Sp.red_yes hd0 hA hB).2.2.2)) rfl))))
      · have h3p : ¬ ((n < 0)) := by first | (simpa using h3) | (have h3q := h3; simp at h3q; omega) | (have h3q := bx2 h3; simp at h3q; omega)
        refine aw_sk ?_
        refine then_normal ?_
        refine aw_p 1023 (
          .a 5 9 <| .nil _ _) ?_
        refine aw_rt ?_
        exact en_ret [.agg #[.int .i64 (Sp.s64 ((n.natAbs : Int) / (Int.gcd (n.natAbs : Int) d : Int))), .int .i64 (Sp.s64 (d / (Int.gcd (n.natAbs : Int) d : Int)))], .int .i64 0] (show (.tuple #[.agg #[.int .i64 (Sp.s64 ((n.natAbs : Int) / (Int.gcd (n.natAbs : Int) d : Int))), .int .i64 (Sp.s64 (d / (Int.gcd (n.natAbs : Int) d : Int)))], .int .i64 0] : Value) = (.tuple #[.agg #[.int .i64 (Sp.qn (Rat.divInt n d)), .int .i64 (Sp.qd (Rat.divInt n d))], .int .i64 (Sp.qe (Rat.divInt n d))]) from (congrArg (fun z : List Value => Value.tuple z.toArray) (lcons (congrArg (fun z : List Value => Value.agg z.toArray) (lcons (congrArg (Value.int .i64) (show (Sp.s64 ((n.natAbs : Int) / (Int.gcd (n.natAbs : Int) d : Int))) = (Sp.qn (Rat.divInt n d)) from by exact (Sp.red_yes hd0 hA hB).2.1 (by omega))) (lcons (congrArg (Value.int .i64) (show (Sp.s64 (d / (Int.gcd (n.natAbs : Int) d : Int))) = (Sp.qd (Rat.divInt n d)) from by exact (Sp.red_yes hd0 hA hB).2.2.1)) rfl))) (lcons (congrArg (Value.int .i64) (show 0 = (Sp.qe (Rat.divInt n d)) from by exact (Sp.red_yes hd0 hA hB).2.2.2)) rfl))))

theorem rratio_ok (n d : Int) (hn0 : -6739986666787659948666753771754907668409286105635143120275902562304 ≤ n) (hn1 : n ≤ 6739986666787659948666753771754907668409286105635143120275902562304) (hd0 : -6739986666787659948666753771754907668409286105635143120275902562304 ≤ d) (hd1 : d ≤ 6739986666787659948666753771754907668409286105635143120275902562304) :
    AC Tryd.prog 30 0 ([lval n, lval d]) [] (.tuple #[.agg #[.int .i64 (Sp.dvn ((n : Int) : Rat) ((d : Int) : Rat)), .int .i64 (Sp.dvd ((n : Int) : Rat) ((d : Int) : Rat))], .int .i64 (Sp.dve ((n : Int) : Rat) ((d : Int) : Rat))]) [] := by
  refine ac_in Tryd.func30 (fun w0 W pin => ?_)
  refine aw_p 3 (
    .a 4 1 <| .nil _ _) ?_
  refine aw_sq 6 7 ?_
  refine aw_p 13 (
    .a 1 4 <| .p (does_c (lsign_ok d (by omega) (by omega))) <| .nil _ _) ?_
  refine aw_bl 0 27 ?_
  refine aw_p 55 (
    .p (does_b (decide (d = 0)) (Sp.sgn_eq0 d)) <| .a 1 4 <| .nil _ _) ?_
  refine aw_cd 110 111 (decide (d = 0)) (fun h1 => ?_) (fun h1 => ?_)
  · have h1p : ((d = 0)) := by first | (simpa using h1) | (have h1q := h1; simp at h1q; omega) | (have h1q := bx1 h1; simp at h1q; omega)
    refine aw_p 221 (
      .a 3 4 <| .nil _ _) ?_
    refine aw_rt ?_
    refine block_ret ?_
    refine then_ret ?_
    exact en_ret [.agg #[.int .i64 0, .int .i64 0], .int .i64 12] (show (.tuple #[.agg #[.int .i64 0, .int .i64 0], .int .i64 12] : Value) = (.tuple #[.agg #[.int .i64 (Sp.dvn ((n : Int) : Rat) ((d : Int) : Rat)), .int .i64 (Sp.dvd ((n : Int) : Rat) ((d : Int) : Rat))], .int .i64 (Sp.dve ((n : Int) : Rat) ((d : Int) : Rat))]) from (congrArg (fun z : List Value => Value.tuple z.toArray) (lcons (congrArg (fun z : List Value => Value.agg z.toArray) (lcons (congrArg (Value.int .i64) (show 0 = (Sp.dvn ((n : Int) : Rat) ((d : Int) : Rat)) from by (first | (rw [show d = 0 by omega]; first | exact (Sp.make_zero _).1 | exact (Sp.make_zero _).2.1 | exact (Sp.make_zero _).2.2) | exact (Sp.ratio_leaf (n := n) (d := d) (by omega)).1 | exact (Sp.ratio_leaf (n := n) (d := d) (by omega)).2.1 | exact (Sp.ratio_leaf (n := n) (d := d) (by omega)).2.2 | (rw [Sp.ratio_neg]; first | exact (Sp.ratio_leaf (n := n) (d := d) (by omega)).1 | exact (Sp.ratio_leaf (n := n) (d := d) (by omega)).2.1 | exact (Sp.ratio_leaf (n := n) (d := d) (by omega)).2.2)))) (lcons (congrArg (Value.int .i64) (show 0 = (Sp.dvd ((n : Int) : Rat) ((d : Int) : Rat)) from by (first | (rw [show d = 0 by omega]; first | exact (Sp.make_zero _).1 | exact (Sp.make_zero _).2.1 | exact (Sp.make_zero _).2.2) | exact (Sp.ratio_leaf (n := n) (d := d) (by omega)).1 | exact (Sp.ratio_leaf (n := n) (d := d) (by omega)).2.1 | exact (Sp.ratio_leaf (n := n) (d := d) (by omega)).2.2 | (rw [Sp.ratio_neg]; first | exact (Sp.ratio_leaf (n := n) (d := d) (by omega)).1 | exact (Sp.ratio_leaf (n := n) (d := d) (by omega)).2.1 | exact (Sp.ratio_leaf (n := n) (d := d) (by omega)).2.2)))) rfl))) (lcons (congrArg (Value.int .i64) (show 12 = (Sp.dve ((n : Int) : Rat) ((d : Int) : Rat)) from by (first | (rw [show d = 0 by omega]; first | exact (Sp.make_zero _).1 | exact (Sp.make_zero _).2.1 | exact (Sp.make_zero _).2.2) | exact (Sp.ratio_leaf (n := n) (d := d) (by omega)).1 | exact (Sp.ratio_leaf (n := n) (d := d) (by omega)).2.1 | exact (Sp.ratio_leaf (n := n) (d := d) (by omega)).2.2 | (rw [Sp.ratio_neg]; first | exact (Sp.ratio_leaf (n := n) (d := d) (by omega)).1 | exact (Sp.ratio_leaf (n := n) (d := d) (by omega)).2.1 | exact (Sp.ratio_leaf (n := n) (d := d) (by omega)).2.2)))) rfl))))
  · have h1p : ¬ ((d = 0)) := by first | (simpa using h1) | (have h1q := h1; simp at h1q; omega) | (have h1q := bx2 h1; simp at h1q; omega)
    refine aw_p 223 (
      .p (does_b (decide (d < 0)) (Sp.sgn_eqn d)) <| .a 1 4 <| .nil _ _) ?_
    refine aw_cd 446 447 (decide (d < 0)) (fun h2 => ?_) (fun h2 => ?_)
    · have h2p : ((d < 0)) := by first | (simpa using h2) | (have h2q := h2; simp at h2q; omega) | (have h2q := bx1 h2; simp at h2q; omega)
      refine aw_d1 (
        .a 1 4 <| .p (does_c (lneg_ok n)) <| .a 1 4 <| .p (does_c (lneg_ok d)) <| .a 2 4 <| .nil _ _) ?_
      refine block_normal ?_
      refine then_normal ?_
      refine aw_p 15 (
        .a 2 4 <| .p (does_c (rreduced_ok (-n) (-d) (by omega) (by omega) (by omega) (by omega))) <| .a 4 4 <| .nil _ _) ?_
      refine aw_rt ?_
      exact en_ret [.agg #[.int .i64 (Sp.qn (Rat.divInt (-n) (-d))), .int .i64 (Sp.qd (Rat.divInt (-n) (-d)))], .int .i64 (Sp.qe (Rat.divInt (-n) (-d)))] (show (.tuple #[.agg #[.int .i64 (Sp.qn (Rat.divInt (-n) (-d))), .int .i64 (Sp.qd (Rat.divInt (-n) (-d)))], .int .i64 (Sp.qe (Rat.divInt (-n) (-d)))] : Value) = (.tuple #[.agg #[.int .i64 (Sp.dvn ((n : Int) : Rat) ((d : Int) : Rat)), .int .i64 (Sp.dvd ((n : Int) : Rat) ((d : Int) : Rat))], .int .i64 (Sp.dve ((n : Int) : Rat) ((d : Int) : Rat))]) from (congrArg (fun z : List Value => Value.tuple z.toArray) (lcons (congrArg (fun z : List Value => Value.agg z.toArray) (lcons (congrArg (Value.int .i64) (show (Sp.qn (Rat.divInt (-n) (-d))) = (Sp.dvn ((n : Int) : Rat) ((d : Int) : Rat)) from by (first | (rw [show d = 0 by omega]; first | exact (Sp.make_zero _).1 | exact (Sp.make_zero _).2.1 | exact (Sp.make_zero _).2.2) | exact (Sp.ratio_leaf (n := n) (d := d) (by omega)).1 | exact (Sp.ratio_leaf (n := n) (d := d) (by omega)).2.1 | exact (Sp.ratio_leaf (n := n) (d := d) (by omega)).2.2 | (rw [Sp.ratio_neg]; first | exact (Sp.ratio_leaf (n := n) (d := d) (by omega)).1 | exact (Sp.ratio_leaf (n := n) (d := d) (by omega)).2.1 | exact (Sp.ratio_leaf (n := n) (d := d) (by omega)).2.2)))) (lcons (congrArg (Value.int .i64) (show (Sp.qd (Rat.divInt (-n) (-d))) = (Sp.dvd ((n : Int) : Rat) ((d : Int) : Rat)) from by (first | (rw [show d = 0 by omega]; first | exact (Sp.make_zero _).1 | exact (Sp.make_zero _).2.1 | exact (Sp.make_zero _).2.2) | exact (Sp.ratio_leaf (n := n) (d := d) (by omega)).1 | exact (Sp.ratio_leaf (n := n) (d := d) (by omega)).2.1 | exact (Sp.ratio_leaf (n := n) (d := d) (by omega)).2.2 | (rw [Sp.ratio_neg]; first | exact (Sp.ratio_leaf (n := n) (d := d) (by omega)).1 | exact (Sp.ratio_leaf (n := n) (d := d) (by omega)).2.1 | exact (Sp.ratio_leaf (n := n) (d := d) (by omega)).2.2)))) rfl))) (lcons (congrArg (Value.int .i64) (show (Sp.qe (Rat.divInt (-n) (-d))) = (Sp.dve ((n : Int) : Rat) ((d : Int) : Rat)) from by (first | (rw [show d = 0 by omega]; first | exact (Sp.make_zero _).1 | exact (Sp.make_zero _).2.1 | exact (Sp.make_zero _).2.2) | exact (Sp.ratio_leaf (n := n) (d := d) (by omega)).1 | exact (Sp.ratio_leaf (n := n) (d := d) (by omega)).2.1 | exact (Sp.ratio_leaf (n := n) (d := d) (by omega)).2.2 | (rw [Sp.ratio_neg]; first | exact (Sp.ratio_leaf (n := n) (d := d) (by omega)).1 | exact (Sp.ratio_leaf (n := n) (d := d) (by omega)).2.1 | exact (Sp.ratio_leaf (n := n) (d := d) (by omega)).2.2)))) rfl))))
    · have h2p : ¬ ((d < 0)) := by first | (simpa using h2) | (have h2q := h2; simp at h2q; omega) | (have h2q := bx2 h2; simp at h2q; omega)
      refine aw_sk ?_
      refine block_normal ?_
      refine then_normal ?_
      refine aw_p 15 (
        .a 2 4 <| .p (does_c (rreduced_ok n d (by omega) (by omega) (by omega) (by omega))) <| .a 4 4 <| .nil _ _) ?_
      refine aw_rt ?_
      exact en_ret [.agg #[.int .i64 (Sp.qn (Rat.divInt n d)), .int .i64 (Sp.qd (Rat.divInt n d))], .int .i64 (Sp.qe (Rat.divInt n d))] (show (.tuple #[.agg #[.int .i64 (Sp.qn (Rat.divInt n d)), .int .i64 (Sp.qd (Rat.divInt n d))], .int .i64 (Sp.qe (Rat.divInt n d))] : Value) = (.tuple #[.agg #[.int .i64 (Sp.dvn ((n : Int) : Rat) ((d : Int) : Rat)), .int .i64 (Sp.dvd ((n : Int) : Rat) ((d : Int) : Rat))], .int .i64 (Sp.dve ((n : Int) : Rat) ((d : Int) : Rat))]) from (congrArg (fun z : List Value => Value.tuple z.toArray) (lcons (congrArg (fun z : List Value => Value.agg z.toArray) (lcons (congrArg (Value.int .i64) (show (Sp.qn (Rat.divInt n d)) = (Sp.dvn ((n : Int) : Rat) ((d : Int) : Rat)) from by (first | (rw [show d = 0 by omega]; first | exact (Sp.make_zero _).1 | exact (Sp.make_zero _).2.1 | exact (Sp.make_zero _).2.2) | exact (Sp.ratio_leaf (n := n) (d := d) (by omega)).1 | exact (Sp.ratio_leaf (n := n) (d := d) (by omega)).2.1 | exact (Sp.ratio_leaf (n := n) (d := d) (by omega)).2.2 | (rw [Sp.ratio_neg]; first | exact (Sp.ratio_leaf (n := n) (d := d) (by omega)).1 | exact (Sp.ratio_leaf (n := n) (d := d) (by omega)).2.1 | exact (Sp.ratio_leaf (n := n) (d := d) (by omega)).2.2)))) (lcons (congrArg (Value.int .i64) (show (Sp.qd (Rat.divInt n d)) = (Sp.dvd ((n : Int) : Rat) ((d : Int) : Rat)) from by (first | (rw [show d = 0 by omega]; first | exact (Sp.make_zero _).1 | exact (Sp.make_zero _).2.1 | exact (Sp.make_zero _).2.2) | exact (Sp.ratio_leaf (n := n) (d := d) (by omega)).1 | exact (Sp.ratio_leaf (n := n) (d := d) (by omega)).2.1 | exact (Sp.ratio_leaf (n := n) (d := d) (by omega)).2.2 | (rw [Sp.ratio_neg]; first | exact (Sp.ratio_leaf (n := n) (d := d) (by omega)).1 | exact (Sp.ratio_leaf (n := n) (d := d) (by omega)).2.1 | exact (Sp.ratio_leaf (n := n) (d := d) (by omega)).2.2)))) rfl))) (lcons (congrArg (Value.int .i64) (show (Sp.qe (Rat.divInt n d)) = (Sp.dve ((n : Int) : Rat) ((d : Int) : Rat)) from by (first | (rw [show d = 0 by omega]; first | exact (Sp.make_zero _).1 | exact (Sp.make_zero _).2.1 | exact (Sp.make_zero _).2.2) | exact (Sp.ratio_leaf (n := n) (d := d) (by omega)).1 | exact (Sp.ratio_leaf (n := n) (d := d) (by omega)).2.1 | exact (Sp.ratio_leaf (n := n) (d := d) (by omega)).2.2 | (rw [Sp.ratio_neg]; first | exact (Sp.ratio_leaf (n := n) (d := d) (by omega)).1 | exact (Sp.ratio_leaf (n := n) (d := d) (by omega)).2.1 | exact (Sp.ratio_leaf (n := n) (d := d) (by omega)).2.2)))) rfl))))


end Go.Proofs.YtngmegnaohmapaaDoor.Am
