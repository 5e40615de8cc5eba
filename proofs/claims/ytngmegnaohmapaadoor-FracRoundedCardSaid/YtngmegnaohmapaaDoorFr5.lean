/-
  Small numbers.
-/
import Derived.Test.YtngmegnaohmapaaDoorProg
import Derived.Test.YtngmegnaohmapaaDoorAm16
import Derived.Test.YtngmegnaohmapaaDoorFr4
import Derived.Test.YtngmegnaohmapaaDoorNc7
namespace Go.Proofs.YtngmegnaohmapaaDoor.Am
open Go Go.Proofs
set_option maxRecDepth 100000
set_option maxHeartbeats 4000000
set_option linter.unusedVariables false
set_option linter.unusedSimpArgs false

theorem below_ok (x n : Int) (h0 : 0 < n) (hz : n ≤ 9223372036854775807) :
    AC Tryd.prog 33 0 ([.int .i64 x, .int .i64 n]) [] (.int .i64 (x % n)) [] := by
  have hlo := Sp.tmod_lo (x := x) h0
  refine ac_in Tryd.func33 (fun w0 W pin => ?_)
  refine aw_p 3 (
    .a 1 1 <| .nil _ _) ?_
  refine aw_p 7 (
    .a 2 1 <| .p (does_rem (t := 3) (t2 := 3) (x := .tmp 5) (y := .tmp 6) (k := .i64) (a := x) (b := n) (by kernel_rfl) (by kernel_rfl) (by kernel_rfl) (by omega)) <| .a 1 1 <| .nil _ _) ?_
  refine aw_sq 14 15 ?_
  refine aw_p 29 (
    .a 2 1 <| .nil _ _) ?_
  refine aw_cd 58 59 (decide ((Int.tmod x n) < 0)) (fun h1 => ?_) (fun h1 => ?_)
  · have h1p : (((Int.tmod x n) < 0)) := by first | (simpa using h1) | (have h1q := h1; simp at h1q; omega) | (have h1q := bx1 h1; simp at h1q; omega)
    refine aw_p1 (
      .a 2 1 <| .p (does_i ((Int.tmod x n) + n) (wrap_i64 (by omega) (by omega)) .i64) <| .a 1 1 <| .nil _ _) ?_
    refine then_normal ?_
    refine aw_p 31 (
      .a 2 1 <| .nil _ _) ?_
    refine aw_rt ?_
    exact en_ret [.int .i64 ((Int.tmod x n) + n)] (show (.int .i64 ((Int.tmod x n) + n) : Value) = (.int .i64 (x % n)) from (congrArg (Value.int .i64) (show ((Int.tmod x n) + n) = (x % n) from by (first | exact Sp.below_neg h0 (by assumption) | exact Sp.below_pos h0 (by omega)))))
  · have h1p : ¬ (((Int.tmod x n) < 0)) := by first | (simpa using h1) | (have h1q := h1; simp at h1q; omega) | (have h1q := bx2 h1; simp at h1q; omega)
    refine aw_sk ?_
    refine then_normal ?_
    refine aw_p 31 (
      .a 2 1 <| .nil _ _) ?_
    refine aw_rt ?_
    exact en_ret [.int .i64 (Int.tmod x n)] (show (.int .i64 (Int.tmod x n) : Value) = (.int .i64 (x % n)) from (congrArg (Value.int .i64) (show (Int.tmod x n) = (x % n) from by (first | exact Sp.below_neg h0 (by assumption) | exact Sp.below_pos h0 (by omega)))))

theorem number_ok0 (x : Int) (zlx : -9223372036854775808 ≤ x) (zux : x ≤ 9223372036854775807) (hk : x % 6 = 0) :
    AC Tryd.prog 14 0 ([.int .i64 x]) [] (.agg #[.int .i64 (Sp.qn (Sp.numb x)), .int .i64 (Sp.qd (Sp.numb x))]) [] := by
  have t6 := Sp.tdiv6_bd zlx zux
  refine ac_in Tryd.func14 (fun w0 W pin => ?_)
  refine aw_p 3 (
    .a 1 1 <| .nil _ _) ?_
  refine aw_p 7 (
    .a 2 2 <| .p (does_c ((by have h := below_ok x 6 (by decide) (by decide); rw [hk] at h; exact h))) <| .a 3 3 <| .nil _ _) ?_
  refine aw_p 15 (
    .a 1 3 <| .p (does_i (Int.tdiv x 6) ((show (IntKind.wrap .i64 (Int.tdiv x 6)) = (Int.tdiv x 6) from wrap_i64 (by omega) (by omega))) .i64) <| .a 3 3 <| .p (does_c (below_ok (Int.tdiv x 6) 21 (by decide) (by decide))) <| .a 2 3 <|
    .p (does_i (((Int.tdiv x 6) % 21) - 10) (wrap_i64 (by omega) (by omega)) .i64) <| .a 1 3 <| .p (does_c (fmake_ok (((Int.tdiv x 6) % 21) - 10) 1 (by omega) (by omega) (by decide) (by decide))) <| .a 6 3 <| .nil _ _) ?_
  refine aw_p 31 (
    .a 2 4 <| .nil _ _) ?_
  refine aw_rt ?_
  exact en_ret [.agg #[.int .i64 (Sp.dvn ((((Int.tdiv x 6) % 21) - 10 : Int) : Rat) ((1 : Int) : Rat)), .int .i64 (Sp.dvd ((((Int.tdiv x 6) % 21) - 10 : Int) : Rat) ((1 : Int) : Rat))]] (show (.agg #[.int .i64 (Sp.dvn ((((Int.tdiv x 6) % 21) - 10 : Int) : Rat) ((1 : Int) : Rat)), .int .i64 (Sp.dvd ((((Int.tdiv x 6) % 21) - 10 : Int) : Rat) ((1 : Int) : Rat))] : Value) = (.agg #[.int .i64 (Sp.qn (Sp.numb x)), .int .i64 (Sp.qd (Sp.numb x))]) from (congrArg (fun z : List Value => Value.agg z.toArray) (lcons (congrArg (Value.int .i64) (show (Sp.dvn ((((Int.tdiv x 6) % 21) - 10 : Int) : Rat) ((1 : Int) : Rat)) = (Sp.qn (Sp.numb x)) from by (first | exact (Sp.numb_leaf hk rfl (by decide) _ rfl).1 | exact (Sp.numb_leaf hk rfl (by decide) _ rfl).2))) (lcons (congrArg (Value.int .i64) (show (Sp.dvd ((((Int.tdiv x 6) % 21) - 10 : Int) : Rat) ((1 : Int) : Rat)) = (Sp.qd (Sp.numb x)) from by (first | exact (Sp.numb_leaf hk rfl (by decide) _ rfl).1 | exact (Sp.numb_leaf hk rfl (by decide) _ rfl).2))) rfl))))

theorem number_ok1 (x : Int) (zlx : -9223372036854775808 ≤ x) (zux : x ≤ 9223372036854775807) (hk : x % 6 = 1) :
    AC Tryd.prog 14 0 ([.int .i64 x]) [] (.agg #[.int .i64 (Sp.qn (Sp.numb x)), .int .i64 (Sp.qd (Sp.numb x))]) [] := by
  have t6 := Sp.tdiv6_bd zlx zux
  refine ac_in Tryd.func14 (fun w0 W pin => ?_)
  refine aw_p 3 (
    .a 1 1 <| .nil _ _) ?_
  refine aw_p 7 (
    .a 2 2 <| .p (does_c ((by have h := below_ok x 6 (by decide) (by decide); rw [hk] at h; exact h))) <| .a 3 3 <| .nil _ _) ?_
  refine aw_p 15 (
    .a 1 3 <| .p (does_i (Int.tdiv x 6) ((show (IntKind.wrap .i64 (Int.tdiv x 6)) = (Int.tdiv x 6) from wrap_i64 (by omega) (by omega))) .i64) <| .a 3 3 <| .p (does_c (below_ok (Int.tdiv x 6) 41 (by decide) (by decide))) <| .a 2 3 <|
    .p (does_i (((Int.tdiv x 6) % 41) - 20) (wrap_i64 (by omega) (by omega)) .i64) <| .a 1 3 <| .p (does_c (fmake_ok (((Int.tdiv x 6) % 41) - 20) 2 (by omega) (by omega) (by decide) (by decide))) <| .a 6 3 <| .nil _ _) ?_
  refine aw_p 31 (
    .a 2 4 <| .nil _ _) ?_
  refine aw_rt ?_
  exact en_ret [.agg #[.int .i64 (Sp.dvn ((((Int.tdiv x 6) % 41) - 20 : Int) : Rat) ((2 : Int) : Rat)), .int .i64 (Sp.dvd ((((Int.tdiv x 6) % 41) - 20 : Int) : Rat) ((2 : Int) : Rat))]] (show (.agg #[.int .i64 (Sp.dvn ((((Int.tdiv x 6) % 41) - 20 : Int) : Rat) ((2 : Int) : Rat)), .int .i64 (Sp.dvd ((((Int.tdiv x 6) % 41) - 20 : Int) : Rat) ((2 : Int) : Rat))] : Value) = (.agg #[.int .i64 (Sp.qn (Sp.numb x)), .int .i64 (Sp.qd (Sp.numb x))]) from (congrArg (fun z : List Value => Value.agg z.toArray) (lcons (congrArg (Value.int .i64) (show (Sp.dvn ((((Int.tdiv x 6) % 41) - 20 : Int) : Rat) ((2 : Int) : Rat)) = (Sp.qn (Sp.numb x)) from by (first | exact (Sp.numb_leaf hk rfl (by decide) _ rfl).1 | exact (Sp.numb_leaf hk rfl (by decide) _ rfl).2))) (lcons (congrArg (Value.int .i64) (show (Sp.dvd ((((Int.tdiv x 6) % 41) - 20 : Int) : Rat) ((2 : Int) : Rat)) = (Sp.qd (Sp.numb x)) from by (first | exact (Sp.numb_leaf hk rfl (by decide) _ rfl).1 | exact (Sp.numb_leaf hk rfl (by decide) _ rfl).2))) rfl))))

theorem number_ok2 (x : Int) (zlx : -9223372036854775808 ≤ x) (zux : x ≤ 9223372036854775807) (hk : x % 6 = 2) :
    AC Tryd.prog 14 0 ([.int .i64 x]) [] (.agg #[.int .i64 (Sp.qn (Sp.numb x)), .int .i64 (Sp.qd (Sp.numb x))]) [] := by
  have t6 := Sp.tdiv6_bd zlx zux
  refine ac_in Tryd.func14 (fun w0 W pin => ?_)
  refine aw_p 3 (
    .a 1 1 <| .nil _ _) ?_
  refine aw_p 7 (
    .a 2 2 <| .p (does_c ((by have h := below_ok x 6 (by decide) (by decide); rw [hk] at h; exact h))) <| .a 3 3 <| .nil _ _) ?_
  refine aw_p 15 (
    .a 1 3 <| .p (does_i (Int.tdiv x 6) ((show (IntKind.wrap .i64 (Int.tdiv x 6)) = (Int.tdiv x 6) from wrap_i64 (by omega) (by omega))) .i64) <| .a 3 3 <| .p (does_c (below_ok (Int.tdiv x 6) 61 (by decide) (by decide))) <| .a 2 3 <|
    .p (does_i (((Int.tdiv x 6) % 61) - 30) (wrap_i64 (by omega) (by omega)) .i64) <| .a 1 3 <| .p (does_c (fmake_ok (((Int.tdiv x 6) % 61) - 30) 3 (by omega) (by omega) (by decide) (by decide))) <| .a 6 3 <| .nil _ _) ?_
  refine aw_p 31 (
    .a 2 4 <| .nil _ _) ?_
  refine aw_rt ?_
  exact en_ret [.agg #[.int .i64 (Sp.dvn ((((Int.tdiv x 6) % 61) - 30 : Int) : Rat) ((3 : Int) : Rat)), .int .i64 (Sp.dvd ((((Int.tdiv x 6) % 61) - 30 : Int) : Rat) ((3 : Int) : Rat))]] (show (.agg #[.int .i64 (Sp.dvn ((((Int.tdiv x 6) % 61) - 30 : Int) : Rat) ((3 : Int) : Rat)), .int .i64 (Sp.dvd ((((Int.tdiv x 6) % 61) - 30 : Int) : Rat) ((3 : Int) : Rat))] : Value) = (.agg #[.int .i64 (Sp.qn (Sp.numb x)), .int .i64 (Sp.qd (Sp.numb x))]) from (congrArg (fun z : List Value => Value.agg z.toArray) (lcons (congrArg (Value.int .i64) (show (Sp.dvn ((((Int.tdiv x 6) % 61) - 30 : Int) : Rat) ((3 : Int) : Rat)) = (Sp.qn (Sp.numb x)) from by (first | exact (Sp.numb_leaf hk rfl (by decide) _ rfl).1 | exact (Sp.numb_leaf hk rfl (by decide) _ rfl).2))) (lcons (congrArg (Value.int .i64) (show (Sp.dvd ((((Int.tdiv x 6) % 61) - 30 : Int) : Rat) ((3 : Int) : Rat)) = (Sp.qd (Sp.numb x)) from by (first | exact (Sp.numb_leaf hk rfl (by decide) _ rfl).1 | exact (Sp.numb_leaf hk rfl (by decide) _ rfl).2))) rfl))))

theorem number_ok3 (x : Int) (zlx : -9223372036854775808 ≤ x) (zux : x ≤ 9223372036854775807) (hk : x % 6 = 3) :
    AC Tryd.prog 14 0 ([.int .i64 x]) [] (.agg #[.int .i64 (Sp.qn (Sp.numb x)), .int .i64 (Sp.qd (Sp.numb x))]) [] := by
  have t6 := Sp.tdiv6_bd zlx zux
  refine ac_in Tryd.func14 (fun w0 W pin => ?_)
  refine aw_p 3 (
    .a 1 1 <| .nil _ _) ?_
  refine aw_p 7 (
    .a 2 2 <| .p (does_c ((by have h := below_ok x 6 (by decide) (by decide); rw [hk] at h; exact h))) <| .a 3 3 <| .nil _ _) ?_
  refine aw_p 15 (
    .a 1 3 <| .p (does_i (Int.tdiv x 6) ((show (IntKind.wrap .i64 (Int.tdiv x 6)) = (Int.tdiv x 6) from wrap_i64 (by omega) (by omega))) .i64) <| .a 3 3 <| .p (does_c (below_ok (Int.tdiv x 6) 81 (by decide) (by decide))) <| .a 2 3 <|
    .p (does_i (((Int.tdiv x 6) % 81) - 40) (wrap_i64 (by omega) (by omega)) .i64) <| .a 1 3 <| .p (does_c (fmake_ok (((Int.tdiv x 6) % 81) - 40) 4 (by omega) (by omega) (by decide) (by decide))) <| .a 6 3 <| .nil _ _) ?_
  refine aw_p 31 (
    .a 2 4 <| .nil _ _) ?_
  refine aw_rt ?_
  exact en_ret [.agg #[.int .i64 (Sp.dvn ((((Int.tdiv x 6) % 81) - 40 : Int) : Rat) ((4 : Int) : Rat)), .int .i64 (Sp.dvd ((((Int.tdiv x 6) % 81) - 40 : Int) : Rat) ((4 : Int) : Rat))]] (show (.agg #[.int .i64 (Sp.dvn ((((Int.tdiv x 6) % 81) - 40 : Int) : Rat) ((4 : Int) : Rat)), .int .i64 (Sp.dvd ((((Int.tdiv x 6) % 81) - 40 : Int) : Rat) ((4 : Int) : Rat))] : Value) = (.agg #[.int .i64 (Sp.qn (Sp.numb x)), .int .i64 (Sp.qd (Sp.numb x))]) from (congrArg (fun z : List Value => Value.agg z.toArray) (lcons (congrArg (Value.int .i64) (show (Sp.dvn ((((Int.tdiv x 6) % 81) - 40 : Int) : Rat) ((4 : Int) : Rat)) = (Sp.qn (Sp.numb x)) from by (first | exact (Sp.numb_leaf hk rfl (by decide) _ rfl).1 | exact (Sp.numb_leaf hk rfl (by decide) _ rfl).2))) (lcons (congrArg (Value.int .i64) (show (Sp.dvd ((((Int.tdiv x 6) % 81) - 40 : Int) : Rat) ((4 : Int) : Rat)) = (Sp.qd (Sp.numb x)) from by (first | exact (Sp.numb_leaf hk rfl (by decide) _ rfl).1 | exact (Sp.numb_leaf hk rfl (by decide) _ rfl).2))) rfl))))

theorem number_ok4 (x : Int) (zlx : -9223372036854775808 ≤ x) (zux : x ≤ 9223372036854775807) (hk : x % 6 = 4) :
    AC Tryd.prog 14 0 ([.int .i64 x]) [] (.agg #[.int .i64 (Sp.qn (Sp.numb x)), .int .i64 (Sp.qd (Sp.numb x))]) [] := by
  have t6 := Sp.tdiv6_bd zlx zux
  refine ac_in Tryd.func14 (fun w0 W pin => ?_)
  refine aw_p 3 (
    .a 1 1 <| .nil _ _) ?_
  refine aw_p 7 (
    .a 2 2 <| .p (does_c ((by have h := below_ok x 6 (by decide) (by decide); rw [hk] at h; exact h))) <| .a 3 3 <| .nil _ _) ?_
  refine aw_p 15 (
    .a 1 3 <| .p (does_i (Int.tdiv x 6) ((show (IntKind.wrap .i64 (Int.tdiv x 6)) = (Int.tdiv x 6) from wrap_i64 (by omega) (by omega))) .i64) <| .a 3 3 <| .p (does_c (below_ok (Int.tdiv x 6) 101 (by decide) (by decide))) <| .a 2 3 <|
    .p (does_i (((Int.tdiv x 6) % 101) - 50) (wrap_i64 (by omega) (by omega)) .i64) <| .a 1 3 <| .p (does_c (fmake_ok (((Int.tdiv x 6) % 101) - 50) 5 (by omega) (by omega) (by decide) (by decide))) <| .a 6 3 <| .nil _ _) ?_
  refine aw_p 31 (
    .a 2 4 <| .nil _ _) ?_
  refine aw_rt ?_
  exact en_ret [.agg #[.int .i64 (Sp.dvn ((((Int.tdiv x 6) % 101) - 50 : Int) : Rat) ((5 : Int) : Rat)), .int .i64 (Sp.dvd ((((Int.tdiv x 6) % 101) - 50 : Int) : Rat) ((5 : Int) : Rat))]] (show (.agg #[.int .i64 (Sp.dvn ((((Int.tdiv x 6) % 101) - 50 : Int) : Rat) ((5 : Int) : Rat)), .int .i64 (Sp.dvd ((((Int.tdiv x 6) % 101) - 50 : Int) : Rat) ((5 : Int) : Rat))] : Value) = (.agg #[.int .i64 (Sp.qn (Sp.numb x)), .int .i64 (Sp.qd (Sp.numb x))]) from (congrArg (fun z : List Value => Value.agg z.toArray) (lcons (congrArg (Value.int .i64) (show (Sp.dvn ((((Int.tdiv x 6) % 101) - 50 : Int) : Rat) ((5 : Int) : Rat)) = (Sp.qn (Sp.numb x)) from by (first | exact (Sp.numb_leaf hk rfl (by decide) _ rfl).1 | exact (Sp.numb_leaf hk rfl (by decide) _ rfl).2))) (lcons (congrArg (Value.int .i64) (show (Sp.dvd ((((Int.tdiv x 6) % 101) - 50 : Int) : Rat) ((5 : Int) : Rat)) = (Sp.qd (Sp.numb x)) from by (first | exact (Sp.numb_leaf hk rfl (by decide) _ rfl).1 | exact (Sp.numb_leaf hk rfl (by decide) _ rfl).2))) rfl))))

theorem number_ok5 (x : Int) (zlx : -9223372036854775808 ≤ x) (zux : x ≤ 9223372036854775807) (hk : x % 6 = 5) :
    AC Tryd.prog 14 0 ([.int .i64 x]) [] (.agg #[.int .i64 (Sp.qn (Sp.numb x)), .int .i64 (Sp.qd (Sp.numb x))]) [] := by
  have t6 := Sp.tdiv6_bd zlx zux
  refine ac_in Tryd.func14 (fun w0 W pin => ?_)
  refine aw_p 3 (
    .a 1 1 <| .nil _ _) ?_
  refine aw_p 7 (
    .a 2 2 <| .p (does_c ((by have h := below_ok x 6 (by decide) (by decide); rw [hk] at h; exact h))) <| .a 3 3 <| .nil _ _) ?_
  refine aw_p 15 (
    .a 1 3 <| .p (does_i (Int.tdiv x 6) ((show (IntKind.wrap .i64 (Int.tdiv x 6)) = (Int.tdiv x 6) from wrap_i64 (by omega) (by omega))) .i64) <| .a 3 3 <| .p (does_c (below_ok (Int.tdiv x 6) 141 (by decide) (by decide))) <| .a 2 3 <|
    .p (does_i (((Int.tdiv x 6) % 141) - 70) (wrap_i64 (by omega) (by omega)) .i64) <| .a 1 3 <| .p (does_c (fmake_ok (((Int.tdiv x 6) % 141) - 70) 7 (by omega) (by omega) (by decide) (by decide))) <| .a 6 3 <| .nil _ _) ?_
  refine aw_p 31 (
    .a 2 4 <| .nil _ _) ?_
  refine aw_rt ?_
  exact en_ret [.agg #[.int .i64 (Sp.dvn ((((Int.tdiv x 6) % 141) - 70 : Int) : Rat) ((7 : Int) : Rat)), .int .i64 (Sp.dvd ((((Int.tdiv x 6) % 141) - 70 : Int) : Rat) ((7 : Int) : Rat))]] (show (.agg #[.int .i64 (Sp.dvn ((((Int.tdiv x 6) % 141) - 70 : Int) : Rat) ((7 : Int) : Rat)), .int .i64 (Sp.dvd ((((Int.tdiv x 6) % 141) - 70 : Int) : Rat) ((7 : Int) : Rat))] : Value) = (.agg #[.int .i64 (Sp.qn (Sp.numb x)), .int .i64 (Sp.qd (Sp.numb x))]) from (congrArg (fun z : List Value => Value.agg z.toArray) (lcons (congrArg (Value.int .i64) (show (Sp.dvn ((((Int.tdiv x 6) % 141) - 70 : Int) : Rat) ((7 : Int) : Rat)) = (Sp.qn (Sp.numb x)) from by (first | exact (Sp.numb_leaf hk rfl (by decide) _ rfl).1 | exact (Sp.numb_leaf hk rfl (by decide) _ rfl).2))) (lcons (congrArg (Value.int .i64) (show (Sp.dvd ((((Int.tdiv x 6) % 141) - 70 : Int) : Rat) ((7 : Int) : Rat)) = (Sp.qd (Sp.numb x)) from by (first | exact (Sp.numb_leaf hk rfl (by decide) _ rfl).1 | exact (Sp.numb_leaf hk rfl (by decide) _ rfl).2))) rfl))))

theorem number_ok (x : Int) (zlx : -9223372036854775808 ≤ x) (zux : x ≤ 9223372036854775807) : AC Tryd.prog 14 0 [.int .i64 x] [] (.agg #[.int .i64 (Sp.qn (Sp.numb x)), .int .i64 (Sp.qd (Sp.numb x))]) [] := by
  rcases (show x % 6 = 0 ∨ x % 6 = 1 ∨ x % 6 = 2 ∨ x % 6 = 3 ∨ x % 6 = 4 ∨ x % 6 = 5 by omega) with h | h | h | h | h | h
  · exact number_ok0 x zlx zux h
  · exact number_ok1 x zlx zux h
  · exact number_ok2 x zlx zux h
  · exact number_ok3 x zlx zux h
  · exact number_ok4 x zlx zux h
  · exact number_ok5 x zlx zux h

end Go.Proofs.YtngmegnaohmapaaDoor.Am
