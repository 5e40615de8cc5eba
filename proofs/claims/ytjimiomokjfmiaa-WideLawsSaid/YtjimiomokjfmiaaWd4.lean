/-
  Small functions of the laws of numbers of 128 bits.
-/
import Derived.Test.YtjimiomokjfmiaaProg
import Derived.Test.YtjimiomokjfmiaaAm13
import Derived.Test.YtjimiomokjfmiaaWd3
namespace Go.Proofs.Ytjimiomokjfmiaa.Am
open Go Go.Proofs
set_option maxRecDepth 100000
set_option maxHeartbeats 4000000
set_option linter.unusedVariables false
set_option linter.unusedSimpArgs false

theorem below_ok (x n : Int) (h0 : 0 < n) (hz : n ≤ 9223372036854775807) :
    AC Try.prog 26 0 ([.int .i64 x, .int .i64 n]) [] (.int .i64 (x % n)) [] := by
  have hlo := Sp.tmod_lo (x := x) h0
  refine ac_in Try.func26 (fun w0 W pin => ?_)
  refine aw_p 3 (
    .a 1 1 <| .nil _ _) ?_
  refine aw_p 7 (
    .a 2 1 <| .p (does_rem (t := 3) (t2 := 3) (x := .tmp 5) (y := .tmp 6) (k := .i64) (a := x) (b := n) (by kernel_rfl) (by kernel_rfl) (by kernel_rfl) (by omega)) <| .a 1 1 <| .nil _ _) ?_
  refine aw_sq 14 15 ?_
  refine aw_p 29 (
    .a 2 1 <| .nil _ _) ?_
  refine aw_cd 58 59 (decide ((Int.tmod x n) < 0)) (fun h1 => ?_) (fun h1 => ?_)
  · have h1p : (((Int.tmod x n) < 0)) := by first | (simpa using h1) | (have h1q := h1; simp at h1q; omega) | (have h1q := bx1 h1; simp at h1q; omega)
    refine aw_p1 (
      .a 2 1 <| .p (does_i ((Int.tmod x n) + n) (wrap_i64 (by omega) (by omega)) .i64) <| .a 1 1 <| .nil _ _) ?_
    refine then_normal ?_
    refine aw_p 31 (
      .a 2 1 <| .nil _ _) ?_
    refine aw_rt ?_
    exact en_ret [.int .i64 ((Int.tmod x n) + n)] (show (.int .i64 ((Int.tmod x n) + n) : Value) = (.int .i64 (x % n)) from (congrArg (Value.int .i64) (show ((Int.tmod x n) + n) = (x % n) from by (first | exact Sp.below_neg h0 (by assumption) | exact Sp.below_pos h0 (by omega)))))
  · have h1p : ¬ (((Int.tmod x n) < 0)) := by first | (simpa using h1) | (have h1q := h1; simp at h1q; omega) | (have h1q := bx2 h1; simp at h1q; omega)
    refine aw_sk ?_
    refine then_normal ?_
    refine aw_p 31 (
      .a 2 1 <| .nil _ _) ?_
    refine aw_rt ?_
    exact en_ret [.int .i64 (Int.tmod x n)] (show (.int .i64 (Int.tmod x n) : Value) = (.int .i64 (x % n)) from (congrArg (Value.int .i64) (show (Int.tmod x n) = (x % n) from by (first | exact Sp.below_neg h0 (by assumption) | exact Sp.below_pos h0 (by omega)))))

theorem wtimes_in (a n : Int) (zla : -170141183460469231731687303715884105728 ≤ a) (zua : a < 170141183460469231731687303715884105728) (zln : -9223372036854775808 ≤ n) (zun : n ≤ 9223372036854775807) (h : Sp.in128 (a * n) = true) : AC Try.prog 25 0 [.agg #[.int .i64 (Sp.wh a), .int .u64 (Sp.wl a)], .int .i64 n] [] (.tuple #[.agg #[.int .i64 (Sp.wh (a * n)), .int .u64 (Sp.wl (a * n))], .int .i64 0]) [] := by
  have t := wtimes_ok a n zla zua zln zun
  rw [(Sp.tm_in h).1, (Sp.tm_in h).2] at t
  exact t
theorem wtimes_out (a n : Int) (zla : -170141183460469231731687303715884105728 ≤ a) (zua : a < 170141183460469231731687303715884105728) (zln : -9223372036854775808 ≤ n) (zun : n ≤ 9223372036854775807) (h : Sp.in128 (a * n) = false) : AC Try.prog 25 0 [.agg #[.int .i64 (Sp.wh a), .int .u64 (Sp.wl a)], .int .i64 n] [] (.tuple #[.agg #[.int .i64 0, .int .u64 0], .int .i64 2]) [] := by
  have t := wtimes_ok a n zla zua zln zun
  rw [(Sp.tm_out (by rw [h]; decide)).1, (Sp.tm_out (by rw [h]; decide)).2] at t
  exact t
theorem wshort_in (a : Int) (zla : -170141183460469231731687303715884105728 ≤ a) (zua : a < 170141183460469231731687303715884105728) (h : Sp.in64 a = true) : AC Try.prog 29 0 [.agg #[.int .i64 (Sp.wh a), .int .u64 (Sp.wl a)]] [] (.tuple #[.int .i64 a, .int .i64 0]) [] := by
  have t := wshort_ok a zla zua
  rw [(Sp.sh_in h).1, (Sp.sh_in h).2] at t
  exact t
theorem wshort_out (a : Int) (zla : -170141183460469231731687303715884105728 ≤ a) (zua : a < 170141183460469231731687303715884105728) (h : Sp.in64 a = false) : AC Try.prog 29 0 [.agg #[.int .i64 (Sp.wh a), .int .u64 (Sp.wl a)]] [] (.tuple #[.int .i64 0, .int .i64 2]) [] := by
  have t := wshort_ok a zla zua
  rw [(Sp.sh_out (by rw [h]; decide)).1, (Sp.sh_out (by rw [h]; decide)).2] at t
  exact t

end Go.Proofs.Ytjimiomokjfmiaa.Am
