/-
  The walks of numbers of 128 bits.
-/
import Derived.Test.YtadifmimefmcnaaProg
import Derived.Test.YtadifmimefmcnaaAm16
import Derived.Test.YtadifmimefmcnaaWd1
import Derived.Test.YtadifmimefmcnaaNc7
namespace Go.Proofs.Ytadifmimefmcnaa.Am
open Go Go.Proofs
set_option maxRecDepth 100000
set_option maxHeartbeats 4000000
set_option linter.unusedVariables false
set_option linter.unusedSimpArgs false

theorem wadd_ok (a b : Int) :
    AC Try.prog 159 0 ([.agg #[.int .i64 (Sp.wh a), .int .u64 (Sp.wl a)], .agg #[.int .i64 (Sp.wh b), .int .u64 (Sp.wl b)]]) [] (.agg #[.int .i64 (Sp.wh (a + b)), .int .u64 (Sp.wl (a + b))]) [] := by
  have wla := Sp.wl_bd a; have wha := Sp.wh_bd a; have wlb := Sp.wl_bd b; have whb := Sp.wh_bd b
  refine ac_in Try.func159 (fun w0 W pin => ?_)
  refine aw_p 3 (
    .a 3 1 <| .nil _ _) ?_
  refine aw_p 7 (
    .a 4 4 <| .p (does_x (run_add64 Try.func162 (by kernel_rfl) (by kernel_rfl) (by kernel_rfl) (by kernel_rfl) (Sp.wl a) (Sp.wl b) 0 (by omega) (by omega) (by omega) (by omega))) <| .a 5 4 <| .nil _ _) ?_
  refine aw_p 15 (
    .a 2 4 <| .p (does_i ((Sp.wh a) % 18446744073709551616) (Sp.ulow) .u64) <| .a 2 4 <| .p (does_i ((Sp.wh b) % 18446744073709551616) (Sp.ulow) .u64) <| .a 1 4 <|
    .p (does_x (run_add64 Try.func162 (by kernel_rfl) (by kernel_rfl) (by kernel_rfl) (by kernel_rfl) ((Sp.wh a) % 18446744073709551616) ((Sp.wh b) % 18446744073709551616) (((Sp.wl a) + (Sp.wl b) + 0) / 18446744073709551616) (by omega) (by omega) (by omega) (by omega))) <| .a 5 4 <| .nil _ _) ?_
  refine aw_w [(4, .pointer (some ⟨3, 0, none⟩)), (5, .int .u64 (((Sp.wl a) + (Sp.wl b) + 0) % 18446744073709551616)), (7, .int .u64 ((((Sp.wh a) % 18446744073709551616) + ((Sp.wh b) % 18446744073709551616) + (((Sp.wl a) + (Sp.wl b) + 0) / 18446744073709551616)) % 18446744073709551616))] [(3, ⟨[.int .i64 0, .int .u64 0], 90, true, 2⟩)] ?_
  refine aw_p 31 (
    .a 1 4 <| .p (does_i (Sp.s64 ((((Sp.wh a) % 18446744073709551616) + ((Sp.wh b) % 18446744073709551616) + (((Sp.wl a) + (Sp.wl b) + 0) / 18446744073709551616)) % 18446744073709551616)) (Sp.s64_any _) .i64) <| .a 3 4 <| .nil _ _) ?_
  refine aw_rt ?_
  exact en_ret [.agg #[.int .i64 (Sp.s64 ((((Sp.wh a) % 18446744073709551616) + ((Sp.wh b) % 18446744073709551616) + (((Sp.wl a) + (Sp.wl b) + 0) / 18446744073709551616)) % 18446744073709551616)), .int .u64 (((Sp.wl a) + (Sp.wl b) + 0) % 18446744073709551616)]] (show (.agg #[.int .i64 (Sp.s64 ((((Sp.wh a) % 18446744073709551616) + ((Sp.wh b) % 18446744073709551616) + (((Sp.wl a) + (Sp.wl b) + 0) / 18446744073709551616)) % 18446744073709551616)), .int .u64 (((Sp.wl a) + (Sp.wl b) + 0) % 18446744073709551616)] : Value) = (.agg #[.int .i64 (Sp.wh (a + b)), .int .u64 (Sp.wl (a + b))]) from (congrArg (fun z : List Value => Value.agg z.toArray) (lcons (congrArg (Value.int .i64) (show (Sp.s64 ((((Sp.wh a) % 18446744073709551616) + ((Sp.wh b) % 18446744073709551616) + (((Sp.wl a) + (Sp.wl b) + 0) / 18446744073709551616)) % 18446744073709551616)) = (Sp.wh (a + b)) from by (simp only [Sp.wh, Sp.wl, Sp.s64] at *; omega))) (lcons (congrArg (Value.int .u64) (show (((Sp.wl a) + (Sp.wl b) + 0) % 18446744073709551616) = (Sp.wl (a + b)) from by (simp only [Sp.wh, Sp.wl, Sp.s64] at *; omega))) rfl))))

theorem wsub_ok (a b : Int) :
    AC Try.prog 175 0 ([.agg #[.int .i64 (Sp.wh a), .int .u64 (Sp.wl a)], .agg #[.int .i64 (Sp.wh b), .int .u64 (Sp.wl b)]]) [] (.agg #[.int .i64 (Sp.wh (a - b)), .int .u64 (Sp.wl (a - b))]) [] := by
  have wla := Sp.wl_bd a; have wha := Sp.wh_bd a; have wlb := Sp.wl_bd b; have whb := Sp.wh_bd b
  refine ac_in Try.func175 (fun w0 W pin => ?_)
  refine aw_p 3 (
    .a 3 1 <| .nil _ _) ?_
  refine aw_p 7 (
    .a 4 4 <| .p (does_x (run_sub64 Try.func178 (by kernel_rfl) (by kernel_rfl) (by kernel_rfl) (by kernel_rfl) (Sp.wl a) (Sp.wl b) 0 (by omega) (by omega) (by omega) (by omega) (by omega) (by omega))) <| .a 5 4 <| .nil _ _) ?_
  refine aw_p 15 (
    .a 2 4 <| .p (does_i ((Sp.wh a) % 18446744073709551616) (Sp.ulow) .u64) <| .a 2 4 <| .p (does_i ((Sp.wh b) % 18446744073709551616) (Sp.ulow) .u64) <| .a 1 4 <|
    .p (does_x (run_sub64 Try.func178 (by kernel_rfl) (by kernel_rfl) (by kernel_rfl) (by kernel_rfl) ((Sp.wh a) % 18446744073709551616) ((Sp.wh b) % 18446744073709551616) (-(((Sp.wl a) - (Sp.wl b) - 0) / 18446744073709551616)) (by omega) (by omega) (by omega) (by omega) (by omega) (by omega))) <|
    .a 5 4 <| .nil _ _) ?_
  refine aw_w [(4, .pointer (some ⟨3, 0, none⟩)), (5, .int .u64 (((Sp.wl a) - (Sp.wl b) - 0) % 18446744073709551616)), (7, .int .u64 ((((Sp.wh a) % 18446744073709551616) - ((Sp.wh b) % 18446744073709551616) - (-(((Sp.wl a) - (Sp.wl b) - 0) / 18446744073709551616))) % 18446744073709551616))] [(3, ⟨[.int .i64 0, .int .u64 0], 90, true, 2⟩)] ?_
  refine aw_p 31 (
    .a 1 4 <| .p (does_i (Sp.s64 ((((Sp.wh a) % 18446744073709551616) - ((Sp.wh b) % 18446744073709551616) - (-(((Sp.wl a) - (Sp.wl b) - 0) / 18446744073709551616))) % 18446744073709551616)) (Sp.s64_any _) .i64) <| .a 3 4 <| .nil _ _) ?_
  refine aw_rt ?_
  exact en_ret [.agg #[.int .i64 (Sp.s64 ((((Sp.wh a) % 18446744073709551616) - ((Sp.wh b) % 18446744073709551616) - (-(((Sp.wl a) - (Sp.wl b) - 0) / 18446744073709551616))) % 18446744073709551616)), .int .u64 (((Sp.wl a) - (Sp.wl b) - 0) % 18446744073709551616)]] (show (.agg #[.int .i64 (Sp.s64 ((((Sp.wh a) % 18446744073709551616) - ((Sp.wh b) % 18446744073709551616) - (-(((Sp.wl a) - (Sp.wl b) - 0) / 18446744073709551616))) % 18446744073709551616)), .int .u64 (((Sp.wl a) - (Sp.wl b) - 0) % 18446744073709551616)] : Value) = (.agg #[.int .i64 (Sp.wh (a - b)), .int .u64 (Sp.wl (a - b))]) from (congrArg (fun z : List Value => Value.agg z.toArray) (lcons (congrArg (Value.int .i64) (show (Sp.s64 ((((Sp.wh a) % 18446744073709551616) - ((Sp.wh b) % 18446744073709551616) - (-(((Sp.wl a) - (Sp.wl b) - 0) / 18446744073709551616))) % 18446744073709551616)) = (Sp.wh (a - b)) from by (simp only [Sp.wh, Sp.wl, Sp.s64] at *; omega))) (lcons (congrArg (Value.int .u64) (show (((Sp.wl a) - (Sp.wl b) - 0) % 18446744073709551616) = (Sp.wl (a - b)) from by (simp only [Sp.wh, Sp.wl, Sp.s64] at *; omega))) rfl))))

theorem wneg_ok (a : Int) :
    AC Try.prog 163 0 ([.agg #[.int .i64 (Sp.wh a), .int .u64 (Sp.wl a)]]) [] (.agg #[.int .i64 (Sp.wh (-a)), .int .u64 (Sp.wl (-a))]) [] := by
  refine ac_in Try.func163 (fun w0 W pin => ?_)
  refine aw_p 3 (
    .a 2 1 <| .nil _ _) ?_
  refine aw_p 7 (
    .a 2 3 <| .p (does_c (wsub_ok 0 a)) <| .a 1 3 <| .nil _ _) ?_
  refine aw_rt ?_
  exact en_ret [.agg #[.int .i64 (Sp.wh (0 - a)), .int .u64 (Sp.wl (0 - a))]] (show (.agg #[.int .i64 (Sp.wh (0 - a)), .int .u64 (Sp.wl (0 - a))] : Value) = (.agg #[.int .i64 (Sp.wh (-a)), .int .u64 (Sp.wl (-a))]) from (congrArg (fun z : List Value => Value.agg z.toArray) (lcons (congrArg (Value.int .i64) (show (Sp.wh (0 - a)) = (Sp.wh (-a)) from by (rw [Int.zero_sub]))) (lcons (congrArg (Value.int .u64) (show (Sp.wl (0 - a)) = (Sp.wl (-a)) from by (rw [Int.zero_sub]))) rfl))))

theorem wcmp_ok (a b : Int) (zla : -170141183460469231731687303715884105728 ≤ a) (zua : a < 170141183460469231731687303715884105728) (zlb : -170141183460469231731687303715884105728 ≤ b) (zub : b < 170141183460469231731687303715884105728) :
    AC Try.prog 95 0 ([.agg #[.int .i64 (Sp.wh a), .int .u64 (Sp.wl a)], .agg #[.int .i64 (Sp.wh b), .int .u64 (Sp.wl b)]]) [] (.int .i64 (Sp.cmp a b)) [] := by
  have wla := Sp.wl_bd a; have wha := Sp.wh_bd a; have wia := Sp.wh_id zla zua; have wma : Sp.wl a = a % 18446744073709551616 := rfl; have wlb := Sp.wl_bd b; have whb := Sp.wh_bd b; have wib := Sp.wh_id zlb zub; have wmb : Sp.wl b = b % 18446744073709551616 := rfl
  refine ac_in Try.func95 (fun w0 W pin => ?_)
  refine aw_p 3 (
    .a 3 1 <| .nil _ _) ?_
  refine aw_sq 6 7 ?_
  refine aw_bl 0 13 ?_
  refine aw_p 27 (
    .a 2 3 <| .p (does_e (decide (a = b)) (Sp.w_eq zla zua zlb zub)) <| .a 1 3 <| .nil _ _) ?_
  refine aw_cd 54 55 (decide (a = b)) (fun h1 => ?_) (fun h1 => ?_)
  · have h1p : ((a = b)) := by first | (simpa using h1) | (have h1q := h1; simp at h1q; omega) | (have h1q := bx1 h1; simp at h1q; omega)
    refine aw_p 109 (
      .a 1 3 <| .nil _ _) ?_
    refine aw_rt ?_
    refine block_ret ?_
    refine then_ret ?_
    exact en_ret [.int .i64 0] (show (.int .i64 0 : Value) = (.int .i64 (Sp.cmp a b)) from (congrArg (Value.int .i64) (show 0 = (Sp.cmp a b) from by (simp only [Sp.cmp]; (repeat' split) <;> omega))))
  · have h1p : ¬ ((a = b)) := by first | (simpa using h1) | (have h1q := h1; simp at h1q; omega) | (have h1q := bx2 h1; simp at h1q; omega)
    rcases Bool.eq_false_or_eq_true (decide ((Sp.wh a) < (Sp.wh b))) with h2 | h2
    · have h2p : (((Sp.wh a) < (Sp.wh b))) := by first | (simpa using h2) | (have h2q := h2; simp at h2q; omega) | (have h2q := bx1 h2; simp at h2q; omega)
      refine aw_p 111 (
        .a 4 3 <| .p (does_b true (h2)) <| .a 15 3 <| .nil _ _) ?_
      refine aw_tr 222 ?_
      refine aw_p 445 (
        .a 1 3 <| .nil _ _) ?_
      refine aw_rt ?_
      refine block_ret ?_
      refine then_ret ?_
      exact en_ret [.int .i64 (-1)] (show (.int .i64 (-1) : Value) = (.int .i64 (Sp.cmp a b)) from (congrArg (Value.int .i64) (show (-1) = (Sp.cmp a b) from by (simp only [Sp.cmp]; (repeat' split) <;> omega))))
    · have h2p : ¬ (((Sp.wh a) < (Sp.wh b))) := by first | (simpa using h2) | (have h2q := h2; simp at h2q; omega) | (have h2q := bx2 h2; simp at h2q; omega)
      rcases Bool.eq_false_or_eq_true ((Sp.wh a) == (Sp.wh b)) with h3 | h3
      · have h3p : (((Sp.wh a) = (Sp.wh b))) := by first | (simpa using h3) | (have h3q := h3; simp at h3q; omega) | (have h3q := bx1 h3; simp at h3q; omega)
        refine aw_p 111 (
          .a 4 3 <| .p (does_b false (h2)) <| .a 5 3 <| .p (does_b true (h3)) <| .a 9 3 <| .nil _ _) ?_
        refine aw_cd 222 223 (decide ((Sp.wl a) < (Sp.wl b))) (fun h4 => ?_) (fun h4 => ?_)
        · have h4p : (((Sp.wl a) < (Sp.wl b))) := by first | (simpa using h4) | (have h4q := h4; simp at h4q; omega) | (have h4q := bx1 h4; simp at h4q; omega)
          refine aw_p 445 (
            .a 1 3 <| .nil _ _) ?_
          refine aw_rt ?_
          refine block_ret ?_
          refine then_ret ?_
          exact en_ret [.int .i64 (-1)] (show (.int .i64 (-1) : Value) = (.int .i64 (Sp.cmp a b)) from (congrArg (Value.int .i64) (show (-1) = (Sp.cmp a b) from by (simp only [Sp.cmp]; (repeat' split) <;> omega))))
        · have h4p : ¬ (((Sp.wl a) < (Sp.wl b))) := by first | (simpa using h4) | (have h4q := h4; simp at h4q; omega) | (have h4q := bx2 h4; simp at h4q; omega)
          refine aw_sk ?_
          refine block_normal ?_
          refine then_normal ?_
          refine aw_p 15 (
            .a 1 3 <| .nil _ _) ?_
          refine aw_rt ?_
          exact en_ret [.int .i64 1] (show (.int .i64 1 : Value) = (.int .i64 (Sp.cmp a b)) from (congrArg (Value.int .i64) (show 1 = (Sp.cmp a b) from by (simp only [Sp.cmp]; (repeat' split) <;> omega))))
      · have h3p : ¬ (((Sp.wh a) = (Sp.wh b))) := by first | (simpa using h3) | (have h3q := h3; simp at h3q; omega) | (have h3q := bx2 h3; simp at h3q; omega)
        refine aw_p 111 (
          .a 4 3 <| .p (does_b false (h2)) <| .a 5 3 <| .p (does_b false (h3)) <| .a 9 3 <| .nil _ _) ?_
        refine aw_fl 223 ?_
        refine aw_sk ?_
        refine block_normal ?_
        refine then_normal ?_
        refine aw_p 15 (
          .a 1 3 <| .nil _ _) ?_
        refine aw_rt ?_
        exact en_ret [.int .i64 1] (show (.int .i64 1 : Value) = (.int .i64 (Sp.cmp a b)) from (congrArg (Value.int .i64) (show 1 = (Sp.cmp a b) from by (simp only [Sp.cmp]; (repeat' split) <;> omega))))

theorem wmag_ok (a : Int) (zla : -170141183460469231731687303715884105728 ≤ a) (zua : a < 170141183460469231731687303715884105728) :
    AC Try.prog 161 0 ([.agg #[.int .i64 (Sp.wh a), .int .u64 (Sp.wl a)]]) [] (.tuple #[.int .u64 ((a.natAbs : Int) / 18446744073709551616), .int .u64 ((a.natAbs : Int) % 18446744073709551616)]) [] := by
  have wla := Sp.wl_bd a; have wha := Sp.wh_bd a; have wia := Sp.wh_id zla zua; have wma : Sp.wl a = a % 18446744073709551616 := rfl
  refine ac_in Try.func161 (fun w0 W pin => ?_)
  refine aw_p 3 (
    .a 3 1 <| .nil _ _) ?_
  refine aw_sq 6 7 ?_
  refine aw_p 13 (
    .a 2 2 <| .p (does_b (decide (a < 0)) (Sp.wh_neg zla zua)) <| .nil _ _) ?_
  refine aw_cd 26 27 (decide (a < 0)) (fun h1 => ?_) (fun h1 => ?_)
  · have h1p : ((a < 0)) := by first | (simpa using h1) | (have h1q := h1; simp at h1q; omega) | (have h1q := bx1 h1; simp at h1q; omega)
    refine aw_p1 (
      .a 1 2 <| .p (does_c (wneg_ok a)) <| .a 1 2 <| .nil _ _) ?_
    refine then_normal ?_
    refine aw_d 15 (
      .a 2 2 <| .p (does_i ((Sp.wh (-a)) % 18446744073709551616) (Sp.ulow) .u64) <| .a 4 2 <| .nil _ _) ?_
    refine aw_rt ?_
    exact en_ret [.int .u64 ((Sp.wh (-a)) % 18446744073709551616), .int .u64 (Sp.wl (-a))] (show (.tuple #[.int .u64 ((Sp.wh (-a)) % 18446744073709551616), .int .u64 (Sp.wl (-a))] : Value) = (.tuple #[.int .u64 ((a.natAbs : Int) / 18446744073709551616), .int .u64 ((a.natAbs : Int) % 18446744073709551616)]) from (congrArg (fun z : List Value => Value.tuple z.toArray) (lcons (congrArg (Value.int .u64) (show ((Sp.wh (-a)) % 18446744073709551616) = ((a.natAbs : Int) / 18446744073709551616) from by (simp only [Sp.wh, Sp.wl, Sp.s64] at *; omega))) (lcons (congrArg (Value.int .u64) (show (Sp.wl (-a)) = ((a.natAbs : Int) % 18446744073709551616) from by (simp only [Sp.wh, Sp.wl, Sp.s64] at *; omega))) rfl))))
  · have h1p : ¬ ((a < 0)) := by first | (simpa using h1) | (have h1q := h1; simp at h1q; omega) | (have h1q := bx2 h1; simp at h1q; omega)
    refine aw_sk ?_
    refine then_normal ?_
    refine aw_d 15 (
      .a 2 2 <| .p (does_i ((Sp.wh a) % 18446744073709551616) (Sp.ulow) .u64) <| .a 4 2 <| .nil _ _) ?_
    refine aw_rt ?_
    exact en_ret [.int .u64 ((Sp.wh a) % 18446744073709551616), .int .u64 (Sp.wl a)] (show (.tuple #[.int .u64 ((Sp.wh a) % 18446744073709551616), .int .u64 (Sp.wl a)] : Value) = (.tuple #[.int .u64 ((a.natAbs : Int) / 18446744073709551616), .int .u64 ((a.natAbs : Int) % 18446744073709551616)]) from (congrArg (fun z : List Value => Value.tuple z.toArray) (lcons (congrArg (Value.int .u64) (show ((Sp.wh a) % 18446744073709551616) = ((a.natAbs : Int) / 18446744073709551616) from by (simp only [Sp.wh, Sp.wl, Sp.s64] at *; omega))) (lcons (congrArg (Value.int .u64) (show (Sp.wl a) = ((a.natAbs : Int) % 18446744073709551616) from by (simp only [Sp.wh, Sp.wl, Sp.s64] at *; omega))) rfl))))

theorem wtimes_ok (a n : Int) (zla : -170141183460469231731687303715884105728 ≤ a) (zua : a < 170141183460469231731687303715884105728) (zln : -9223372036854775808 ≤ n) (zun : n ≤ 9223372036854775807) :
    AC Try.prog 128 0 ([.agg #[.int .i64 (Sp.wh a), .int .u64 (Sp.wl a)], .int .i64 n]) [] (.tuple #[.agg #[.int .i64 (Sp.wh (Sp.tm (a * n))), .int .u64 (Sp.wl (Sp.tm (a * n)))], .int .i64 (Sp.tmE (a * n))]) [] := by
  have wla := Sp.wl_bd a; have wha := Sp.wh_bd a; have wia := Sp.wh_id zla zua; have wma : Sp.wl a = a % 18446744073709551616 := rfl
  refine ac_in Try.func128 (fun w0 W pin => ?_)
  refine aw_p 3 (
    .a 3 1 <| .nil _ _) ?_
  refine aw_p 7 (
    .a 2 3 <| .p (does_b (decide (a < 0)) (Sp.wh_neg zla zua)) <| .a 4 3 <| .nil _ _) ?_
  refine aw_p 15 (
    .a 1 3 <| .p (does_c (wmag_ok a (by omega) (by omega))) <| .a 5 3 <| .nil _ _) ?_
  refine aw_p 31 (
    .a 1 3 <| .p (does_i (n % 18446744073709551616) (Sp.ulow) .u64) <| .a 1 3 <| .nil _ _) ?_
  refine aw_sq 62 63 ?_
  refine aw_p 125 (
    .a 2 3 <| .nil _ _) ?_
  refine aw_cd 250 251 (decide (n < 0)) (fun h1 => ?_) (fun h1 => ?_)
  · have h1p : ((n < 0)) := by first | (simpa using h1) | (have h1q := h1; simp at h1q; omega) | (have h1q := bx1 h1; simp at h1q; omega)
    refine aw_p1 (
      .a 1 3 <| .p (does_i (n.natAbs : Int) ((show (IntKind.wrap .u64 (0 - (n % 18446744073709551616))) = (n.natAbs : Int) from (by rw [IntKind.wrap_u64]; omega))) .u64) <| .a 1 3 <| .nil _ _) ?_
    refine then_normal ?_
    refine aw_gen (fun z : Int => (fun (m : Int) => mkSt 0 [(4, .pointer (some ⟨2, 0, none⟩)), (5, .int .i64 0), (6, .bool (!((decide (a < 0)) == (decide (n < 0))))), (7, .int .u64 ((a.natAbs : Int) / 18446744073709551616)), (8, .int .u64 ((a.natAbs : Int) % 18446744073709551616)), (9, .int .u64 m)] [(2, ⟨[.int .i64 0, .int .u64 0], 90, true, 2⟩)]) z) (fun z : Int => (fun (m : Int) => (m = (n.natAbs : Int))) z) ((n.natAbs : Int)) (show ((n.natAbs : Int) = (n.natAbs : Int)) from by omega) [(4, .pointer (some ⟨2, 0, none⟩)), (5, .int .i64 0), (6, .bool (!((decide (a < 0)) == (decide (n < 0))))), (7, .int .u64 ((a.natAbs : Int) / 18446744073709551616)), (8, .int .u64 ((a.natAbs : Int) % 18446744073709551616)), (9, .int .u64 (n.natAbs : Int))] [(2, ⟨[.int .i64 0, .int .u64 0], 90, true, 2⟩)] (fun z hz => ?_)
    obtain ⟨m, hv⟩ : ∃ y, y = z := ⟨z, rfl⟩; subst hv
    have hz' : (m = (n.natAbs : Int)) := hz
    have hm := hz'
    clear hz
    obtain ⟨ph0, ph1, pl0, pl1, pa, pb⟩ := Sp.times_parts zla zua zln zun hm
    show AW _ _ _ (mkSt 0 [(4, .pointer (some ⟨2, 0, none⟩)), (5, .int .i64 0), (6, .bool (!((decide (a < 0)) == (decide (n < 0))))), (7, .int .u64 ((a.natAbs : Int) / 18446744073709551616)), (8, .int .u64 ((a.natAbs : Int) % 18446744073709551616)), (9, .int .u64 m)] [(2, ⟨[.int .i64 0, .int .u64 0], 90, true, 2⟩)]) _
    refine aw_p 127 (
      .a 2 3 <| .p (does_c (mul64_ok ((a.natAbs : Int) / 18446744073709551616) m (by omega) (by omega) (by omega) (by omega))) <| .a 5 3 <| .nil _ _) ?_
    refine aw_p 255 (
      .a 2 3 <| .p (does_c (mul64_ok ((a.natAbs : Int) % 18446744073709551616) m (by omega) (by omega) (by omega) (by omega))) <| .a 5 3 <| .nil _ _) ?_
    refine aw_p 511 (
      .a 2 3 <| .p (does_x (run_add64 Try.func162 (by kernel_rfl) (by kernel_rfl) (by kernel_rfl) (by kernel_rfl) (((a.natAbs : Int) / 18446744073709551616) * m % 18446744073709551616) (((a.natAbs : Int) % 18446744073709551616) * m / 18446744073709551616) 0 (by omega) (by omega) (by omega) (by omega))) <|
      .a 5 3 <| .nil _ _) ?_
    refine aw_sq 1022 1023 ?_
    rcases Bool.eq_false_or_eq_true (decide (((((a.natAbs : Int) / 18446744073709551616) * m / 18446744073709551616) + (((((a.natAbs : Int) / 18446744073709551616) * m % 18446744073709551616) + (((a.natAbs : Int) % 18446744073709551616) * m / 18446744073709551616) + 0) / 18446744073709551616)) > 0)) with h2 | h2
    · have h2p : ((((((a.natAbs : Int) / 18446744073709551616) * m / 18446744073709551616) + (((((a.natAbs : Int) / 18446744073709551616) * m % 18446744073709551616) + (((a.natAbs : Int) % 18446744073709551616) * m / 18446744073709551616) + 0) / 18446744073709551616)) > 0)) := by first | (simpa using h2) | (have h2q := h2; simp at h2q; omega) | (have h2q := bx1 h2; simp at h2q; omega)
      refine aw_p 2045 (
        .a 2 3 <|
        .p (does_i ((((a.natAbs : Int) / 18446744073709551616) * m / 18446744073709551616) + (((((a.natAbs : Int) / 18446744073709551616) * m % 18446744073709551616) + (((a.natAbs : Int) % 18446744073709551616) * m / 18446744073709551616) + 0) / 18446744073709551616)) (wrap_u64 (by omega) (by omega)) .u64) <|
        .p (does_b true (h2)) <| .a 16 3 <| .nil _ _) ?_
      refine aw_tr 4090 ?_
      refine aw_p 8181 (
        .a 3 3 <| .nil _ _) ?_
      refine aw_rt ?_
      refine then_ret ?_
      exact en_ret [.agg #[.int .i64 0, .int .u64 0], .int .i64 2] (show (.tuple #[.agg #[.int .i64 0, .int .u64 0], .int .i64 2] : Value) = (.tuple #[.agg #[.int .i64 (Sp.wh (Sp.tm (a * n))), .int .u64 (Sp.wl (Sp.tm (a * n)))], .int .i64 (Sp.tmE (a * n))]) from (congrArg (fun z : List Value => Value.tuple z.toArray) (lcons (congrArg (fun z : List Value => Value.agg z.toArray) (lcons (congrArg (Value.int .i64) (show 0 = (Sp.wh (Sp.tm (a * n))) from by (first | (rw [(Sp.tm_no (x := a * n) (by omega)).1]; decide) | (rw [(Sp.tm_no (x := a * n) (by omega)).2]) | (rw [(Sp.tm_yes (x := a * n) (by omega)).1]; congr 1; omega) | (rw [(Sp.tm_yes (x := a * n) (by omega)).2])))) (lcons (congrArg (Value.int .u64) (show 0 = (Sp.wl (Sp.tm (a * n))) from by (first | (rw [(Sp.tm_no (x := a * n) (by omega)).1]; decide) | (rw [(Sp.tm_no (x := a * n) (by omega)).2]) | (rw [(Sp.tm_yes (x := a * n) (by omega)).1]; congr 1; omega) | (rw [(Sp.tm_yes (x := a * n) (by omega)).2])))) rfl))) (lcons (congrArg (Value.int .i64) (show 2 = (Sp.tmE (a * n)) from by (first | (rw [(Sp.tm_no (x := a * n) (by omega)).1]; decide) | (rw [(Sp.tm_no (x := a * n) (by omega)).2]) | (rw [(Sp.tm_yes (x := a * n) (by omega)).1]; congr 1; omega) | (rw [(Sp.tm_yes (x := a * n) (by omega)).2])))) rfl))))
    · have h2p : ¬ ((((((a.natAbs : Int) / 18446744073709551616) * m / 18446744073709551616) + (((((a.natAbs : Int) / 18446744073709551616) * m % 18446744073709551616) + (((a.natAbs : Int) % 18446744073709551616) * m / 18446744073709551616) + 0) / 18446744073709551616)) > 0)) := by first | (simpa using h2) | (have h2q := h2; simp at h2q; omega) | (have h2q := bx2 h2; simp at h2q; omega)
      rcases Bool.eq_false_or_eq_true (decide ((((((a.natAbs : Int) / 18446744073709551616) * m % 18446744073709551616) + (((a.natAbs : Int) % 18446744073709551616) * m / 18446744073709551616) + 0) % 18446744073709551616) > 9223372036854775808)) with h3 | h3
      · have h3p : (((((((a.natAbs : Int) / 18446744073709551616) * m % 18446744073709551616) + (((a.natAbs : Int) % 18446744073709551616) * m / 18446744073709551616) + 0) % 18446744073709551616) > 9223372036854775808)) := by first | (simpa using h3) | (have h3q := h3; simp at h3q; omega) | (have h3q := bx1 h3; simp at h3q; omega)
        refine aw_p 2045 (
          .a 2 3 <|
          .p (does_i ((((a.natAbs : Int) / 18446744073709551616) * m / 18446744073709551616) + (((((a.natAbs : Int) / 18446744073709551616) * m % 18446744073709551616) + (((a.natAbs : Int) % 18446744073709551616) * m / 18446744073709551616) + 0) / 18446744073709551616)) (wrap_u64 (by omega) (by omega)) .u64) <|
          .p (does_b false (h2)) <| .a 2 3 <| .p (does_b true (h3)) <| .a 13 3 <| .nil _ _) ?_
        refine aw_tr 4090 ?_
        refine aw_p 8181 (
          .a 3 3 <| .nil _ _) ?_
        refine aw_rt ?_
        refine then_ret ?_
        exact en_ret [.agg #[.int .i64 0, .int .u64 0], .int .i64 2] (show (.tuple #[.agg #[.int .i64 0, .int .u64 0], .int .i64 2] : Value) = (.tuple #[.agg #[.int .i64 (Sp.wh (Sp.tm (a * n))), .int .u64 (Sp.wl (Sp.tm (a * n)))], .int .i64 (Sp.tmE (a * n))]) from (congrArg (fun z : List Value => Value.tuple z.toArray) (lcons (congrArg (fun z : List Value => Value.agg z.toArray) (lcons (congrArg (Value.int .i64) (show 0 = (Sp.wh (Sp.tm (a * n))) from by (first | (rw [(Sp.tm_no (x := a * n) (by omega)).1]; decide) | (rw [(Sp.tm_no (x := a * n) (by omega)).2]) | (rw [(Sp.tm_yes (x := a * n) (by omega)).1]; congr 1; omega) | (rw [(Sp.tm_yes (x := a * n) (by omega)).2])))) (lcons (congrArg (Value.int .u64) (show 0 = (Sp.wl (Sp.tm (a * n))) from by (first | (rw [(Sp.tm_no (x := a * n) (by omega)).1]; decide) | (rw [(Sp.tm_no (x := a * n) (by omega)).2]) | (rw [(Sp.tm_yes (x := a * n) (by omega)).1]; congr 1; omega) | (rw [(Sp.tm_yes (x := a * n) (by omega)).2])))) rfl))) (lcons (congrArg (Value.int .i64) (show 2 = (Sp.tmE (a * n)) from by (first | (rw [(Sp.tm_no (x := a * n) (by omega)).1]; decide) | (rw [(Sp.tm_no (x := a * n) (by omega)).2]) | (rw [(Sp.tm_yes (x := a * n) (by omega)).1]; congr 1; omega) | (rw [(Sp.tm_yes (x := a * n) (by omega)).2])))) rfl))))
      · have h3p : ¬ (((((((a.natAbs : Int) / 18446744073709551616) * m % 18446744073709551616) + (((a.natAbs : Int) % 18446744073709551616) * m / 18446744073709551616) + 0) % 18446744073709551616) > 9223372036854775808)) := by first | (simpa using h3) | (have h3q := h3; simp at h3q; omega) | (have h3q := bx2 h3; simp at h3q; omega)
        rcases Bool.eq_false_or_eq_true ((((((a.natAbs : Int) / 18446744073709551616) * m % 18446744073709551616) + (((a.natAbs : Int) % 18446744073709551616) * m / 18446744073709551616) + 0) % 18446744073709551616) == 9223372036854775808) with h4 | h4
        · have h4p : (((((((a.natAbs : Int) / 18446744073709551616) * m % 18446744073709551616) + (((a.natAbs : Int) % 18446744073709551616) * m / 18446744073709551616) + 0) % 18446744073709551616) = 9223372036854775808)) := by first | (simpa using h4) | (have h4q := h4; simp at h4q; omega) | (have h4q := bx1 h4; simp at h4q; omega)
          rcases Bool.eq_false_or_eq_true (decide ((((a.natAbs : Int) % 18446744073709551616) * m % 18446744073709551616) > 0)) with h5 | h5
          · have h5p : (((((a.natAbs : Int) % 18446744073709551616) * m % 18446744073709551616) > 0)) := by first | (simpa using h5) | (have h5q := h5; simp at h5q; omega) | (have h5q := bx1 h5; simp at h5q; omega)
            refine aw_p 2045 (
              .a 2 3 <|
              .p (does_i ((((a.natAbs : Int) / 18446744073709551616) * m / 18446744073709551616) + (((((a.natAbs : Int) / 18446744073709551616) * m % 18446744073709551616) + (((a.natAbs : Int) % 18446744073709551616) * m / 18446744073709551616) + 0) / 18446744073709551616)) (wrap_u64 (by omega) (by omega)) .u64) <|
              .p (does_b false (h2)) <| .a 2 3 <| .p (does_b false (h3)) <| .a 3 3 <| .p (does_b true (h4)) <| .a 2 3 <| .p (does_b true (h5)) <| .a 6 3 <| .nil _ _) ?_
            refine aw_tr 4090 ?_
            refine aw_p 8181 (
              .a 3 3 <| .nil _ _) ?_
            refine aw_rt ?_
            refine then_ret ?_
            exact en_ret [.agg #[.int .i64 0, .int .u64 0], .int .i64 2] (show (.tuple #[.agg #[.int .i64 0, .int .u64 0], .int .i64 2] : Value) = (.tuple #[.agg #[.int .i64 (Sp.wh (Sp.tm (a * n))), .int .u64 (Sp.wl (Sp.tm (a * n)))], .int .i64 (Sp.tmE (a * n))]) from (congrArg (fun z : List Value => Value.tuple z.toArray) (lcons (congrArg (fun z : List Value => Value.agg z.toArray) (lcons (congrArg (Value.int .i64) (show 0 = (Sp.wh (Sp.tm (a * n))) from by (first | (rw [(Sp.tm_no (x := a * n) (by omega)).1]; decide) | (rw [(Sp.tm_no (x := a * n) (by omega)).2]) | (rw [(Sp.tm_yes (x := a * n) (by omega)).1]; congr 1; omega) | (rw [(Sp.tm_yes (x := a * n) (by omega)).2])))) (lcons (congrArg (Value.int .u64) (show 0 = (Sp.wl (Sp.tm (a * n))) from by (first | (rw [(Sp.tm_no (x := a * n) (by omega)).1]; decide) | (rw [(Sp.tm_no (x := a * n) (by omega)).2]) | (rw [(Sp.tm_yes (x := a * n) (by omega)).1]; congr 1; omega) | (rw [(Sp.tm_yes (x := a * n) (by omega)).2])))) rfl))) (lcons (congrArg (Value.int .i64) (show 2 = (Sp.tmE (a * n)) from by (first | (rw [(Sp.tm_no (x := a * n) (by omega)).1]; decide) | (rw [(Sp.tm_no (x := a * n) (by omega)).2]) | (rw [(Sp.tm_yes (x := a * n) (by omega)).1]; congr 1; omega) | (rw [(Sp.tm_yes (x := a * n) (by omega)).2])))) rfl))))
          · have h5p : ¬ (((((a.natAbs : Int) % 18446744073709551616) * m % 18446744073709551616) > 0)) := by first | (simpa using h5) | (have h5q := h5; simp at h5q; omega) | (have h5q := bx2 h5; simp at h5q; omega)
            refine aw_p 2045 (
              .a 2 3 <|
              .p (does_i ((((a.natAbs : Int) / 18446744073709551616) * m / 18446744073709551616) + (((((a.natAbs : Int) / 18446744073709551616) * m % 18446744073709551616) + (((a.natAbs : Int) % 18446744073709551616) * m / 18446744073709551616) + 0) / 18446744073709551616)) (wrap_u64 (by omega) (by omega)) .u64) <|
              .p (does_b false (h2)) <| .a 2 3 <| .p (does_b false (h3)) <| .a 3 3 <| .p (does_b true (h4)) <| .a 2 3 <| .p (does_b false (h5)) <| .a 2 3 <| .p (does_b ((decide (a < 0)) == (decide (n < 0))) (Bool.not_not _)) <| .a 3 3 <| .nil _ _) ?_
            refine aw_cd 4090 4091 ((decide (a < 0)) == (decide (n < 0))) (fun h6 => ?_) (fun h6 => ?_)
            · have h6p : ((((a < 0)) ↔ ((n < 0)))) := by first | (simpa using h6) | (have h6q := h6; simp at h6q; omega) | (have h6q := bx1 h6; simp at h6q; omega)
              refine aw_p 8181 (
                .a 3 3 <| .nil _ _) ?_
              refine aw_rt ?_
              refine then_ret ?_
              exact en_ret [.agg #[.int .i64 0, .int .u64 0], .int .i64 2] (show (.tuple #[.agg #[.int .i64 0, .int .u64 0], .int .i64 2] : Value) = (.tuple #[.agg #[.int .i64 (Sp.wh (Sp.tm (a * n))), .int .u64 (Sp.wl (Sp.tm (a * n)))], .int .i64 (Sp.tmE (a * n))]) from (congrArg (fun z : List Value => Value.tuple z.toArray) (lcons (congrArg (fun z : List Value => Value.agg z.toArray) (lcons (congrArg (Value.int .i64) (show 0 = (Sp.wh (Sp.tm (a * n))) from by (first | (rw [(Sp.tm_no (x := a * n) (by omega)).1]; decide) | (rw [(Sp.tm_no (x := a * n) (by omega)).2]) | (rw [(Sp.tm_yes (x := a * n) (by omega)).1]; congr 1; omega) | (rw [(Sp.tm_yes (x := a * n) (by omega)).2])))) (lcons (congrArg (Value.int .u64) (show 0 = (Sp.wl (Sp.tm (a * n))) from by (first | (rw [(Sp.tm_no (x := a * n) (by omega)).1]; decide) | (rw [(Sp.tm_no (x := a * n) (by omega)).2]) | (rw [(Sp.tm_yes (x := a * n) (by omega)).1]; congr 1; omega) | (rw [(Sp.tm_yes (x := a * n) (by omega)).2])))) rfl))) (lcons (congrArg (Value.int .i64) (show 2 = (Sp.tmE (a * n)) from by (first | (rw [(Sp.tm_no (x := a * n) (by omega)).1]; decide) | (rw [(Sp.tm_no (x := a * n) (by omega)).2]) | (rw [(Sp.tm_yes (x := a * n) (by omega)).1]; congr 1; omega) | (rw [(Sp.tm_yes (x := a * n) (by omega)).2])))) rfl))))
            · have h6p : ¬ ((((a < 0)) ↔ ((n < 0)))) := by first | (simpa using h6) | (have h6q := h6; simp at h6q; omega) | (have h6q := bx2 h6; simp at h6q; omega)
              refine aw_sk ?_
              refine then_normal ?_
              refine aw_p 2047 (
                .a 1 3 <|
                .p (does_i (Sp.wh ((a.natAbs : Int) / 18446744073709551616 * m * 18446744073709551616 + (a.natAbs : Int) % 18446744073709551616 * m)) ((show (IntKind.wrap .i64 (((((a.natAbs : Int) / 18446744073709551616) * m % 18446744073709551616) + (((a.natAbs : Int) % 18446744073709551616) * m / 18446744073709551616) + 0) % 18446744073709551616)) = (Sp.wh ((a.natAbs : Int) / 18446744073709551616 * m * 18446744073709551616 + (a.natAbs : Int) % 18446744073709551616 * m)) from (by rw [Sp.s64_any]; simp only [Sp.wh, Sp.s64]; omega))) .i64) <|
                .p (does_i (Sp.wl ((a.natAbs : Int) / 18446744073709551616 * m * 18446744073709551616 + (a.natAbs : Int) % 18446744073709551616 * m)) ((show (((a.natAbs : Int) % 18446744073709551616) * m % 18446744073709551616) = (Sp.wl ((a.natAbs : Int) / 18446744073709551616 * m * 18446744073709551616 + (a.natAbs : Int) % 18446744073709551616 * m)) from (by simp only [Sp.wl]; omega))) .u64) <|
                .a 3 3 <| .nil _ _) ?_
              refine aw_sq 4094 4095 ?_
              refine aw_p 8189 (
                .p (does_b true (not_f h6)) <| .nil _ _) ?_
              refine aw_tr 16378 ?_
              refine aw_p1 (
                .a 1 4 <| .p (does_c (wneg_ok ((a.natAbs : Int) / 18446744073709551616 * m * 18446744073709551616 + (a.natAbs : Int) % 18446744073709551616 * m))) <| .a 1 4 <| .nil _ _) ?_
              refine then_normal ?_
              refine aw_p 8191 (
                .a 3 4 <| .nil _ _) ?_
              refine aw_rt ?_
              exact en_ret [.agg #[.int .i64 (Sp.wh (-((a.natAbs : Int) / 18446744073709551616 * m * 18446744073709551616 + (a.natAbs : Int) % 18446744073709551616 * m))), .int .u64 (Sp.wl (-((a.natAbs : Int) / 18446744073709551616 * m * 18446744073709551616 + (a.natAbs : Int) % 18446744073709551616 * m)))], .int .i64 0] (show (.tuple #[.agg #[.int .i64 (Sp.wh (-((a.natAbs : Int) / 18446744073709551616 * m * 18446744073709551616 + (a.natAbs : Int) % 18446744073709551616 * m))), .int .u64 (Sp.wl (-((a.natAbs : Int) / 18446744073709551616 * m * 18446744073709551616 + (a.natAbs : Int) % 18446744073709551616 * m)))], .int .i64 0] : Value) = (.tuple #[.agg #[.int .i64 (Sp.wh (Sp.tm (a * n))), .int .u64 (Sp.wl (Sp.tm (a * n)))], .int .i64 (Sp.tmE (a * n))]) from (congrArg (fun z : List Value => Value.tuple z.toArray) (lcons (congrArg (fun z : List Value => Value.agg z.toArray) (lcons (congrArg (Value.int .i64) (show (Sp.wh (-((a.natAbs : Int) / 18446744073709551616 * m * 18446744073709551616 + (a.natAbs : Int) % 18446744073709551616 * m))) = (Sp.wh (Sp.tm (a * n))) from by (first | (rw [(Sp.tm_no (x := a * n) (by omega)).1]; decide) | (rw [(Sp.tm_no (x := a * n) (by omega)).2]) | (rw [(Sp.tm_yes (x := a * n) (by omega)).1]; congr 1; omega) | (rw [(Sp.tm_yes (x := a * n) (by omega)).2])))) (lcons (congrArg (Value.int .u64) (show (Sp.wl (-((a.natAbs : Int) / 18446744073709551616 * m * 18446744073709551616 + (a.natAbs : Int) % 18446744073709551616 * m))) = (Sp.wl (Sp.tm (a * n))) from by (first | (rw [(Sp.tm_no (x := a * n) (by omega)).1]; decide) | (rw [(Sp.tm_no (x := a * n) (by omega)).2]) | (rw [(Sp.tm_yes (x := a * n) (by omega)).1]; congr 1; omega) | (rw [(Sp.tm_yes (x := a * n) (by omega)).2])))) rfl))) (lcons (congrArg (Value.int .i64) (show 0 = (Sp.tmE (a * n)) from by (first | (rw [(Sp.tm_no (x := a * n) (by omega)).1]; decide) | (rw [(Sp.tm_no (x := a * n) (by omega)).2]) | (rw [(Sp.tm_yes (x := a * n) (by omega)).1]; congr 1; omega) | (rw [(Sp.tm_yes (x := a * n) (by omega)).2])))) rfl))))
        · have h4p : ¬ (((((((a.natAbs : Int) / 18446744073709551616) * m % 18446744073709551616) + (((a.natAbs : Int) % 18446744073709551616) * m / 18446744073709551616) + 0) % 18446744073709551616) = 9223372036854775808)) := by first | (simpa using h4) | (have h4q := h4; simp at h4q; omega) | (have h4q := bx2 h4; simp at h4q; omega)
          refine aw_p 2045 (
            .a 2 3 <|
            .p (does_i ((((a.natAbs : Int) / 18446744073709551616) * m / 18446744073709551616) + (((((a.natAbs : Int) / 18446744073709551616) * m % 18446744073709551616) + (((a.natAbs : Int) % 18446744073709551616) * m / 18446744073709551616) + 0) / 18446744073709551616)) (wrap_u64 (by omega) (by omega)) .u64) <|
            .p (does_b false (h2)) <| .a 2 3 <| .p (does_b false (h3)) <| .a 3 3 <| .p (does_b false (h4)) <| .a 9 3 <| .nil _ _) ?_
          refine aw_fl 4091 ?_
          refine aw_sk ?_
          refine then_normal ?_
          refine aw_p 2047 (
            .a 1 3 <|
            .p (does_i (Sp.wh ((a.natAbs : Int) / 18446744073709551616 * m * 18446744073709551616 + (a.natAbs : Int) % 18446744073709551616 * m)) ((show (IntKind.wrap .i64 (((((a.natAbs : Int) / 18446744073709551616) * m % 18446744073709551616) + (((a.natAbs : Int) % 18446744073709551616) * m / 18446744073709551616) + 0) % 18446744073709551616)) = (Sp.wh ((a.natAbs : Int) / 18446744073709551616 * m * 18446744073709551616 + (a.natAbs : Int) % 18446744073709551616 * m)) from (by rw [Sp.s64_any]; simp only [Sp.wh, Sp.s64]; omega))) .i64) <|
            .p (does_i (Sp.wl ((a.natAbs : Int) / 18446744073709551616 * m * 18446744073709551616 + (a.natAbs : Int) % 18446744073709551616 * m)) ((show (((a.natAbs : Int) % 18446744073709551616) * m % 18446744073709551616) = (Sp.wl ((a.natAbs : Int) / 18446744073709551616 * m * 18446744073709551616 + (a.natAbs : Int) % 18446744073709551616 * m)) from (by simp only [Sp.wl]; omega))) .u64) <|
            .a 3 3 <| .nil _ _) ?_
          refine aw_sq 4094 4095 ?_
          refine aw_p 8189 (
            .a 1 4 <| .nil _ _) ?_
          refine aw_cd 16378 16379 (!((decide (a < 0)) == (decide (n < 0)))) (fun h7 => ?_) (fun h7 => ?_)
          · have h7p : (¬ ((((a < 0)) ↔ ((n < 0))))) := by first | (simpa using h7) | (have h7q := h7; simp at h7q; omega) | (have h7q := bx3 h7; simp at h7q; omega)
            refine aw_p1 (
              .a 1 4 <| .p (does_c (wneg_ok ((a.natAbs : Int) / 18446744073709551616 * m * 18446744073709551616 + (a.natAbs : Int) % 18446744073709551616 * m))) <| .a 1 4 <| .nil _ _) ?_
            refine then_normal ?_
            refine aw_p 8191 (
              .a 3 4 <| .nil _ _) ?_
            refine aw_rt ?_
            exact en_ret [.agg #[.int .i64 (Sp.wh (-((a.natAbs : Int) / 18446744073709551616 * m * 18446744073709551616 + (a.natAbs : Int) % 18446744073709551616 * m))), .int .u64 (Sp.wl (-((a.natAbs : Int) / 18446744073709551616 * m * 18446744073709551616 + (a.natAbs : Int) % 18446744073709551616 * m)))], .int .i64 0] (show (.tuple #[.agg #[.int .i64 (Sp.wh (-((a.natAbs : Int) / 18446744073709551616 * m * 18446744073709551616 + (a.natAbs : Int) % 18446744073709551616 * m))), .int .u64 (Sp.wl (-((a.natAbs : Int) / 18446744073709551616 * m * 18446744073709551616 + (a.natAbs : Int) % 18446744073709551616 * m)))], .int .i64 0] : Value) = (.tuple #[.agg #[.int .i64 (Sp.wh (Sp.tm (a * n))), .int .u64 (Sp.wl (Sp.tm (a * n)))], .int .i64 (Sp.tmE (a * n))]) from (congrArg (fun z : List Value => Value.tuple z.toArray) (lcons (congrArg (fun z : List Value => Value.agg z.toArray) (lcons (congrArg (Value.int .i64) (show (Sp.wh (-((a.natAbs : Int) / 18446744073709551616 * m * 18446744073709551616 + (a.natAbs : Int) % 18446744073709551616 * m))) = (Sp.wh (Sp.tm (a * n))) from by (first | (rw [(Sp.tm_no (x := a * n) (by omega)).1]; decide) | (rw [(Sp.tm_no (x := a * n) (by omega)).2]) | (rw [(Sp.tm_yes (x := a * n) (by omega)).1]; congr 1; omega) | (rw [(Sp.tm_yes (x := a * n) (by omega)).2])))) (lcons (congrArg (Value.int .u64) (show (Sp.wl (-((a.natAbs : Int) / 18446744073709551616 * m * 18446744073709551616 + (a.natAbs : Int) % 18446744073709551616 * m))) = (Sp.wl (Sp.tm (a * n))) from by (first | (rw [(Sp.tm_no (x := a * n) (by omega)).1]; decide) | (rw [(Sp.tm_no (x := a * n) (by omega)).2]) | (rw [(Sp.tm_yes (x := a * n) (by omega)).1]; congr 1; omega) | (rw [(Sp.tm_yes (x := a * n) (by omega)).2])))) rfl))) (lcons (congrArg (Value.int .i64) (show 0 = (Sp.tmE (a * n)) from by (first | (rw [(Sp.tm_no (x := a * n) (by omega)).1]; decide) | (rw [(Sp.tm_no (x := a * n) (by omega)).2]) | (rw [(Sp.tm_yes (x := a * n) (by omega)).1]; congr 1; omega) | (rw [(Sp.tm_yes (x := a * n) (by omega)).2])))) rfl))))
          · have h7p : ¬ (¬ ((((a < 0)) ↔ ((n < 0))))) := by first | (simpa using h7) | (have h7q := h7; simp at h7q; omega) | (have h7q := bx4 h7; simp at h7q; omega)
            refine aw_sk ?_
            refine then_normal ?_
            refine aw_p 8191 (
              .a 3 4 <| .nil _ _) ?_
            refine aw_rt ?_
            exact en_ret [.agg #[.int .i64 (Sp.wh ((a.natAbs : Int) / 18446744073709551616 * m * 18446744073709551616 + (a.natAbs : Int) % 18446744073709551616 * m)), .int .u64 (Sp.wl ((a.natAbs : Int) / 18446744073709551616 * m * 18446744073709551616 + (a.natAbs : Int) % 18446744073709551616 * m))], .int .i64 0] (show (.tuple #[.agg #[.int .i64 (Sp.wh ((a.natAbs : Int) / 18446744073709551616 * m * 18446744073709551616 + (a.natAbs : Int) % 18446744073709551616 * m)), .int .u64 (Sp.wl ((a.natAbs : Int) / 18446744073709551616 * m * 18446744073709551616 + (a.natAbs : Int) % 18446744073709551616 * m))], .int .i64 0] : Value) = (.tuple #[.agg #[.int .i64 (Sp.wh (Sp.tm (a * n))), .int .u64 (Sp.wl (Sp.tm (a * n)))], .int .i64 (Sp.tmE (a * n))]) from (congrArg (fun z : List Value => Value.tuple z.toArray) (lcons (congrArg (fun z : List Value => Value.agg z.toArray) (lcons (congrArg (Value.int .i64) (show (Sp.wh ((a.natAbs : Int) / 18446744073709551616 * m * 18446744073709551616 + (a.natAbs : Int) % 18446744073709551616 * m)) = (Sp.wh (Sp.tm (a * n))) from by (first | (rw [(Sp.tm_no (x := a * n) (by omega)).1]; decide) | (rw [(Sp.tm_no (x := a * n) (by omega)).2]) | (rw [(Sp.tm_yes (x := a * n) (by omega)).1]; congr 1; omega) | (rw [(Sp.tm_yes (x := a * n) (by omega)).2])))) (lcons (congrArg (Value.int .u64) (show (Sp.wl ((a.natAbs : Int) / 18446744073709551616 * m * 18446744073709551616 + (a.natAbs : Int) % 18446744073709551616 * m)) = (Sp.wl (Sp.tm (a * n))) from by (first | (rw [(Sp.tm_no (x := a * n) (by omega)).1]; decide) | (rw [(Sp.tm_no (x := a * n) (by omega)).2]) | (rw [(Sp.tm_yes (x := a * n) (by omega)).1]; congr 1; omega) | (rw [(Sp.tm_yes (x := a * n) (by omega)).2])))) rfl))) (lcons (congrArg (Value.int .i64) (show 0 = (Sp.tmE (a * n)) from by (first | (rw [(Sp.tm_no (x := a * n) (by omega)).1]; decide) | (rw [(Sp.tm_no (x := a * n) (by omega)).2]) | (rw [(Sp.tm_yes (x := a * n) (by omega)).1]; congr 1; omega) | (rw [(Sp.tm_yes (x := a * n) (by omega)).2])))) rfl))))
  · have h1p : ¬ ((n < 0)) := by first | (simpa using h1) | (have h1q := h1; simp at h1q; omega) | (have h1q := bx2 h1; simp at h1q; omega)
    refine aw_sk ?_
    refine then_normal ?_
    refine aw_gen (fun z : Int => (fun (m : Int) => mkSt 0 [(4, .pointer (some ⟨2, 0, none⟩)), (5, .int .i64 0), (6, .bool (!((decide (a < 0)) == (decide (n < 0))))), (7, .int .u64 ((a.natAbs : Int) / 18446744073709551616)), (8, .int .u64 ((a.natAbs : Int) % 18446744073709551616)), (9, .int .u64 m)] [(2, ⟨[.int .i64 0, .int .u64 0], 90, true, 2⟩)]) z) (fun z : Int => (fun (m : Int) => (m = (n.natAbs : Int))) z) ((n % 18446744073709551616)) (show ((n % 18446744073709551616) = (n.natAbs : Int)) from by omega) [(4, .pointer (some ⟨2, 0, none⟩)), (5, .int .i64 0), (6, .bool (!((decide (a < 0)) == (decide (n < 0))))), (7, .int .u64 ((a.natAbs : Int) / 18446744073709551616)), (8, .int .u64 ((a.natAbs : Int) % 18446744073709551616)), (9, .int .u64 (n % 18446744073709551616))] [(2, ⟨[.int .i64 0, .int .u64 0], 90, true, 2⟩)] (fun z hz => ?_)
    obtain ⟨m, hv⟩ : ∃ y, y = z := ⟨z, rfl⟩; subst hv
    have hz' : (m = (n.natAbs : Int)) := hz
    have hm := hz'
    clear hz
    obtain ⟨ph0, ph1, pl0, pl1, pa, pb⟩ := Sp.times_parts zla zua zln zun hm
    show AW _ _ _ (mkSt 0 [(4, .pointer (some ⟨2, 0, none⟩)), (5, .int .i64 0), (6, .bool (!((decide (a < 0)) == (decide (n < 0))))), (7, .int .u64 ((a.natAbs : Int) / 18446744073709551616)), (8, .int .u64 ((a.natAbs : Int) % 18446744073709551616)), (9, .int .u64 m)] [(2, ⟨[.int .i64 0, .int .u64 0], 90, true, 2⟩)]) _
    refine aw_p 127 (
      .a 2 3 <| .p (does_c (mul64_ok ((a.natAbs : Int) / 18446744073709551616) m (by omega) (by omega) (by omega) (by omega))) <| .a 5 3 <| .nil _ _) ?_
    refine aw_p 255 (
      .a 2 3 <| .p (does_c (mul64_ok ((a.natAbs : Int) % 18446744073709551616) m (by omega) (by omega) (by omega) (by omega))) <| .a 5 3 <| .nil _ _) ?_
    refine aw_p 511 (
      .a 2 3 <| .p (does_x (run_add64 Try.func162 (by kernel_rfl) (by kernel_rfl) (by kernel_rfl) (by kernel_rfl) (((a.natAbs : Int) / 18446744073709551616) * m % 18446744073709551616) (((a.natAbs : Int) % 18446744073709551616) * m / 18446744073709551616) 0 (by omega) (by omega) (by omega) (by omega))) <|
      .a 5 3 <| .nil _ _) ?_
    refine aw_sq 1022 1023 ?_
    rcases Bool.eq_false_or_eq_true (decide (((((a.natAbs : Int) / 18446744073709551616) * m / 18446744073709551616) + (((((a.natAbs : Int) / 18446744073709551616) * m % 18446744073709551616) + (((a.natAbs : Int) % 18446744073709551616) * m / 18446744073709551616) + 0) / 18446744073709551616)) > 0)) with h8 | h8
    · have h8p : ((((((a.natAbs : Int) / 18446744073709551616) * m / 18446744073709551616) + (((((a.natAbs : Int) / 18446744073709551616) * m % 18446744073709551616) + (((a.natAbs : Int) % 18446744073709551616) * m / 18446744073709551616) + 0) / 18446744073709551616)) > 0)) := by first | (simpa using h8) | (have h8q := h8; simp at h8q; omega) | (have h8q := bx1 h8; simp at h8q; omega)
      refine aw_p 2045 (
        .a 2 3 <|
        .p (does_i ((((a.natAbs : Int) / 18446744073709551616) * m / 18446744073709551616) + (((((a.natAbs : Int) / 18446744073709551616) * m % 18446744073709551616) + (((a.natAbs : Int) % 18446744073709551616) * m / 18446744073709551616) + 0) / 18446744073709551616)) (wrap_u64 (by omega) (by omega)) .u64) <|
        .p (does_b true (h8)) <| .a 16 3 <| .nil _ _) ?_
      refine aw_tr 4090 ?_
      refine aw_p 8181 (
        .a 3 3 <| .nil _ _) ?_
      refine aw_rt ?_
      refine then_ret ?_
      exact en_ret [.agg #[.int .i64 0, .int .u64 0], .int .i64 2] (show (.tuple #[.agg #[.int .i64 0, .int .u64 0], .int .i64 2] : Value) = (.tuple #[.agg #[.int .i64 (Sp.wh (Sp.tm (a * n))), .int .u64 (Sp.wl (Sp.tm (a * n)))], .int .i64 (Sp.tmE (a * n))]) from (congrArg (fun z : List Value => Value.tuple z.toArray) (lcons (congrArg (fun z : List Value => Value.agg z.toArray) (lcons (congrArg (Value.int .i64) (show 0 = (Sp.wh (Sp.tm (a * n))) from by (first | (rw [(Sp.tm_no (x := a * n) (by omega)).1]; decide) | (rw [(Sp.tm_no (x := a * n) (by omega)).2]) | (rw [(Sp.tm_yes (x := a * n) (by omega)).1]; congr 1; omega) | (rw [(Sp.tm_yes (x := a * n) (by omega)).2])))) (lcons (congrArg (Value.int .u64) (show 0 = (Sp.wl (Sp.tm (a * n))) from by (first | (rw [(Sp.tm_no (x := a * n) (by omega)).1]; decide) | (rw [(Sp.tm_no (x := a * n) (by omega)).2]) | (rw [(Sp.tm_yes (x := a * n) (by omega)).1]; congr 1; omega) | (rw [(Sp.tm_yes (x := a * n) (by omega)).2])))) rfl))) (lcons (congrArg (Value.int .i64) (show 2 = (Sp.tmE (a * n)) from by (first | (rw [(Sp.tm_no (x := a * n) (by omega)).1]; decide) | (rw [(Sp.tm_no (x := a * n) (by omega)).2]) | (rw [(Sp.tm_yes (x := a * n) (by omega)).1]; congr 1; omega) | (rw [(Sp.tm_yes (x := a * n) (by omega)).2])))) rfl))))
    · have h8p : ¬ ((((((a.natAbs : Int) / 18446744073709551616) * m / 18446744073709551616) + (((((a.natAbs : Int) / 18446744073709551616) * m % 18446744073709551616) + (((a.natAbs : Int) % 18446744073709551616) * m / 18446744073709551616) + 0) / 18446744073709551616)) > 0)) := by first | (simpa using h8) | (have h8q := h8; simp at h8q; omega) | (have h8q := bx2 h8; simp at h8q; omega)
      rcases Bool.eq_false_or_eq_true (decide ((((((a.natAbs : Int) / 18446744073709551616) * m % 18446744073709551616) + (((a.natAbs : Int) % 18446744073709551616) * m / 18446744073709551616) + 0) % 18446744073709551616) > 9223372036854775808)) with h9 | h9
      · have h9p : (((((((a.natAbs : Int) / 18446744073709551616) * m % 18446744073709551616) + (((a.natAbs : Int) % 18446744073709551616) * m / 18446744073709551616) + 0) % 18446744073709551616) > 9223372036854775808)) := by first | (simpa using h9) | (have h9q := h9; simp at h9q; omega) | (have h9q := bx1 h9; simp at h9q; omega)
        refine aw_p 2045 (
          .a 2 3 <|
          .p (does_i ((((a.natAbs : Int) / 18446744073709551616) * m / 18446744073709551616) + (((((a.natAbs : Int) / 18446744073709551616) * m % 18446744073709551616) + (((a.natAbs : Int) % 18446744073709551616) * m / 18446744073709551616) + 0) / 18446744073709551616)) (wrap_u64 (by omega) (by omega)) .u64) <|
          .p (does_b false (h8)) <| .a 2 3 <| .p (does_b true (h9)) <| .a 13 3 <| .nil _ _) ?_
        refine aw_tr 4090 ?_
        refine aw_p 8181 (
          .a 3 3 <| .nil _ _) ?_
        refine aw_rt ?_
        refine then_ret ?_
        exact en_ret [.agg #[.int .i64 0, .int .u64 0], .int .i64 2] (show (.tuple #[.agg #[.int .i64 0, .int .u64 0], .int .i64 2] : Value) = (.tuple #[.agg #[.int .i64 (Sp.wh (Sp.tm (a * n))), .int .u64 (Sp.wl (Sp.tm (a * n)))], .int .i64 (Sp.tmE (a * n))]) from (congrArg (fun z : List Value => Value.tuple z.toArray) (lcons (congrArg (fun z : List Value => Value.agg z.toArray) (lcons (congrArg (Value.int .i64) (show 0 = (Sp.wh (Sp.tm (a * n))) from by (first | (rw [(Sp.tm_no (x := a * n) (by omega)).1]; decide) | (rw [(Sp.tm_no (x := a * n) (by omega)).2]) | (rw [(Sp.tm_yes (x := a * n) (by omega)).1]; congr 1; omega) | (rw [(Sp.tm_yes (x := a * n) (by omega)).2])))) (lcons (congrArg (Value.int .u64) (show 0 = (Sp.wl (Sp.tm (a * n))) from by (first | (rw [(Sp.tm_no (x := a * n) (by omega)).1]; decide) | (rw [(Sp.tm_no (x := a * n) (by omega)).2]) | (rw [(Sp.tm_yes (x := a * n) (by omega)).1]; congr 1; omega) | (rw [(Sp.tm_yes (x := a * n) (by omega)).2])))) rfl))) (lcons (congrArg (Value.int .i64) (show 2 = (Sp.tmE (a * n)) from by (first | (rw [(Sp.tm_no (x := a * n) (by omega)).1]; decide) | (rw [(Sp.tm_no (x := a * n) (by omega)).2]) | (rw [(Sp.tm_yes (x := a * n) (by omega)).1]; congr 1; omega) | (rw [(Sp.tm_yes (x := a * n) (by omega)).2])))) rfl))))
      · have h9p : ¬ (((((((a.natAbs : Int) / 18446744073709551616) * m % 18446744073709551616) + (((a.natAbs : Int) % 18446744073709551616) * m / 18446744073709551616) + 0) % 18446744073709551616) > 9223372036854775808)) := by first | (simpa using h9) | (have h9q := h9; simp at h9q; omega) | (have h9q := bx2 h9; simp at h9q; omega)
        rcases Bool.eq_false_or_eq_true ((((((a.natAbs : Int) / 18446744073709551616) * m % 18446744073709551616) + (((a.natAbs : Int) % 18446744073709551616) * m / 18446744073709551616) + 0) % 18446744073709551616) == 9223372036854775808) with h10 | h10
        · have h10p : (((((((a.natAbs : Int) / 18446744073709551616) * m % 18446744073709551616) + (((a.natAbs : Int) % 18446744073709551616) * m / 18446744073709551616) + 0) % 18446744073709551616) = 9223372036854775808)) := by first | (simpa using h10) | (have h10q := h10; simp at h10q; omega) | (have h10q := bx1 h10; simp at h10q; omega)
          rcases Bool.eq_false_or_eq_true (decide ((((a.natAbs : Int) % 18446744073709551616) * m % 18446744073709551616) > 0)) with h11 | h11
          · have h11p : (((((a.natAbs : Int) % 18446744073709551616) * m % 18446744073709551616) > 0)) := by first | (simpa using h11) | (have h11q := h11; simp at h11q; omega) | (have h11q := bx1 h11; simp at h11q; omega)
            refine aw_p 2045 (
              .a 2 3 <|
              .p (does_i ((((a.natAbs : Int) / 18446744073709551616) * m / 18446744073709551616) + (((((a.natAbs : Int) / 18446744073709551616) * m % 18446744073709551616) + (((a.natAbs : Int) % 18446744073709551616) * m / 18446744073709551616) + 0) / 18446744073709551616)) (wrap_u64 (by omega) (by omega)) .u64) <|
              .p (does_b false (h8)) <| .a 2 3 <| .p (does_b false (h9)) <| .a 3 3 <| .p (does_b true (h10)) <| .a 2 3 <| .p (does_b true (h11)) <| .a 6 3 <| .nil _ _) ?_
            refine aw_tr 4090 ?_
            refine aw_p 8181 (
              .a 3 3 <| .nil _ _) ?_
            refine aw_rt ?_
            refine then_ret ?_
            exact en_ret [.agg #[.int .i64 0, .int .u64 0], .int .i64 2] (show (.tuple #[.agg #[.int .i64 0, .int .u64 0], .int .i64 2] : Value) = (.tuple #[.agg #[.int .i64 (Sp.wh (Sp.tm (a * n))), .int .u64 (Sp.wl (Sp.tm (a * n)))], .int .i64 (Sp.tmE (a * n))]) from (congrArg (fun z : List Value => Value.tuple z.toArray) (lcons (congrArg (fun z : List Value => Value.agg z.toArray) (lcons (congrArg (Value.int .i64) (show 0 = (Sp.wh (Sp.tm (a * n))) from by (first | (rw [(Sp.tm_no (x := a * n) (by omega)).1]; decide) | (rw [(Sp.tm_no (x := a * n) (by omega)).2]) | (rw [(Sp.tm_yes (x := a * n) (by omega)).1]; congr 1; omega) | (rw [(Sp.tm_yes (x := a * n) (by omega)).2])))) (lcons (congrArg (Value.int .u64) (show 0 = (Sp.wl (Sp.tm (a * n))) from by (first | (rw [(Sp.tm_no (x := a * n) (by omega)).1]; decide) | (rw [(Sp.tm_no (x := a * n) (by omega)).2]) | (rw [(Sp.tm_yes (x := a * n) (by omega)).1]; congr 1; omega) | (rw [(Sp.tm_yes (x := a * n) (by omega)).2])))) rfl))) (lcons (congrArg (Value.int .i64) (show 2 = (Sp.tmE (a * n)) from by (first | (rw [(Sp.tm_no (x := a * n) (by omega)).1]; decide) | (rw [(Sp.tm_no (x := a * n) (by omega)).2]) | (rw [(Sp.tm_yes (x := a * n) (by omega)).1]; congr 1; omega) | (rw [(Sp.tm_yes (x := a * n) (by omega)).2])))) rfl))))
          · have h11p : ¬ (((((a.natAbs : Int) % 18446744073709551616) * m % 18446744073709551616) > 0)) := by first | (simpa using h11) | (have h11q := h11; simp at h11q; omega) | (have h11q := bx2 h11; simp at h11q; omega)
            refine aw_p 2045 (
              .a 2 3 <|
              .p (does_i ((((a.natAbs : Int) / 18446744073709551616) * m / 18446744073709551616) + (((((a.natAbs : Int) / 18446744073709551616) * m % 18446744073709551616) + (((a.natAbs : Int) % 18446744073709551616) * m / 18446744073709551616) + 0) / 18446744073709551616)) (wrap_u64 (by omega) (by omega)) .u64) <|
              .p (does_b false (h8)) <| .a 2 3 <| .p (does_b false (h9)) <| .a 3 3 <| .p (does_b true (h10)) <| .a 2 3 <| .p (does_b false (h11)) <| .a 2 3 <| .p (does_b ((decide (a < 0)) == (decide (n < 0))) (Bool.not_not _)) <| .a 3 3 <| .nil _ _) ?_
            refine aw_cd 4090 4091 ((decide (a < 0)) == (decide (n < 0))) (fun h12 => ?_) (fun h12 => ?_)
            · have h12p : ((((a < 0)) ↔ ((n < 0)))) := by first | (simpa using h12) | (have h12q := h12; simp at h12q; omega) | (have h12q := bx1 h12; simp at h12q; omega)
              refine aw_p 8181 (
                .a 3 3 <| .nil _ _) ?_
              refine aw_rt ?_
              refine then_ret ?_
              exact en_ret [.agg #[.int .i64 0, .int .u64 0], .int .i64 2] (show (.tuple #[.agg #[.int .i64 0, .int .u64 0], .int .i64 2] : Value) = (.tuple #[.agg #[.int .i64 (Sp.wh (Sp.tm (a * n))), .int .u64 (Sp.wl (Sp.tm (a * n)))], .int .i64 (Sp.tmE (a * n))]) from (congrArg (fun z : List Value => Value.tuple z.toArray) (lcons (congrArg (fun z : List Value => Value.agg z.toArray) (lcons (congrArg (Value.int .i64) (show 0 = (Sp.wh (Sp.tm (a * n))) from by (first | (rw [(Sp.tm_no (x := a * n) (by omega)).1]; decide) | (rw [(Sp.tm_no (x := a * n) (by omega)).2]) | (rw [(Sp.tm_yes (x := a * n) (by omega)).1]; congr 1; omega) | (rw [(Sp.tm_yes (x := a * n) (by omega)).2])))) (lcons (congrArg (Value.int .u64) (show 0 = (Sp.wl (Sp.tm (a * n))) from by (first | (rw [(Sp.tm_no (x := a * n) (by omega)).1]; decide) | (rw [(Sp.tm_no (x := a * n) (by omega)).2]) | (rw [(Sp.tm_yes (x := a * n) (by omega)).1]; congr 1; omega) | (rw [(Sp.tm_yes (x := a * n) (by omega)).2])))) rfl))) (lcons (congrArg (Value.int .i64) (show 2 = (Sp.tmE (a * n)) from by (first | (rw [(Sp.tm_no (x := a * n) (by omega)).1]; decide) | (rw [(Sp.tm_no (x := a * n) (by omega)).2]) | (rw [(Sp.tm_yes (x := a * n) (by omega)).1]; congr 1; omega) | (rw [(Sp.tm_yes (x := a * n) (by omega)).2])))) rfl))))
            · have h12p : ¬ ((((a < 0)) ↔ ((n < 0)))) := by first | (simpa using h12) | (have h12q := h12; simp at h12q; omega) | (have h12q := bx2 h12; simp at h12q; omega)
              refine aw_sk ?_
              refine then_normal ?_
              refine aw_p 2047 (
                .a 1 3 <|
                .p (does_i (Sp.wh ((a.natAbs : Int) / 18446744073709551616 * m * 18446744073709551616 + (a.natAbs : Int) % 18446744073709551616 * m)) ((show (IntKind.wrap .i64 (((((a.natAbs : Int) / 18446744073709551616) * m % 18446744073709551616) + (((a.natAbs : Int) % 18446744073709551616) * m / 18446744073709551616) + 0) % 18446744073709551616)) = (Sp.wh ((a.natAbs : Int) / 18446744073709551616 * m * 18446744073709551616 + (a.natAbs : Int) % 18446744073709551616 * m)) from (by rw [Sp.s64_any]; simp only [Sp.wh, Sp.s64]; omega))) .i64) <|
                .p (does_i (Sp.wl ((a.natAbs : Int) / 18446744073709551616 * m * 18446744073709551616 + (a.natAbs : Int) % 18446744073709551616 * m)) ((show (((a.natAbs : Int) % 18446744073709551616) * m % 18446744073709551616) = (Sp.wl ((a.natAbs : Int) / 18446744073709551616 * m * 18446744073709551616 + (a.natAbs : Int) % 18446744073709551616 * m)) from (by simp only [Sp.wl]; omega))) .u64) <|
                .a 3 3 <| .nil _ _) ?_
              refine aw_sq 4094 4095 ?_
              refine aw_p 8189 (
                .p (does_b true (not_f h12)) <| .nil _ _) ?_
              refine aw_tr 16378 ?_
              refine aw_p1 (
                .a 1 4 <| .p (does_c (wneg_ok ((a.natAbs : Int) / 18446744073709551616 * m * 18446744073709551616 + (a.natAbs : Int) % 18446744073709551616 * m))) <| .a 1 4 <| .nil _ _) ?_
              refine then_normal ?_
              refine aw_p 8191 (
                .a 3 4 <| .nil _ _) ?_
              refine aw_rt ?_
              exact en_ret [.agg #[.int .i64 (Sp.wh (-((a.natAbs : Int) / 18446744073709551616 * m * 18446744073709551616 + (a.natAbs : Int) % 18446744073709551616 * m))), .int .u64 (Sp.wl (-((a.natAbs : Int) / 18446744073709551616 * m * 18446744073709551616 + (a.natAbs : Int) % 18446744073709551616 * m)))], .int .i64 0] (show (.tuple #[.agg #[.int .i64 (Sp.wh (-((a.natAbs : Int) / 18446744073709551616 * m * 18446744073709551616 + (a.natAbs : Int) % 18446744073709551616 * m))), .int .u64 (Sp.wl (-((a.natAbs : Int) / 18446744073709551616 * m * 18446744073709551616 + (a.natAbs : Int) % 18446744073709551616 * m)))], .int .i64 0] : Value) = (.tuple #[.agg #[.int .i64 (Sp.wh (Sp.tm (a * n))), .int .u64 (Sp.wl (Sp.tm (a * n)))], .int .i64 (Sp.tmE (a * n))]) from (congrArg (fun z : List Value => Value.tuple z.toArray) (lcons (congrArg (fun z : List Value => Value.agg z.toArray) (lcons (congrArg (Value.int .i64) (show (Sp.wh (-((a.natAbs : Int) / 18446744073709551616 * m * 18446744073709551616 + (a.natAbs : Int) % 18446744073709551616 * m))) = (Sp.wh (Sp.tm (a * n))) from by (first | (rw [(Sp.tm_no (x := a * n) (by omega)).1]; decide) | (rw [(Sp.tm_no (x := a * n) (by omega)).2]) | (rw [(Sp.tm_yes (x := a * n) (by omega)).1]; congr 1; omega) | (rw [(Sp.tm_yes (x := a * n) (by omega)).2])))) (lcons (congrArg (Value.int .u64) (show (Sp.wl (-((a.natAbs : Int) / 18446744073709551616 * m * 18446744073709551616 + (a.natAbs : Int) % 18446744073709551616 * m))) = (Sp.wl (Sp.tm (a * n))) from by (first | (rw [(Sp.tm_no (x := a * n) (by omega)).1]; decide) | (rw [(Sp.tm_no (x := a * n) (by omega)).2]) | (rw [(Sp.tm_yes (x := a * n) (by omega)).1]; congr 1; omega) | (rw [(Sp.tm_yes (x := a * n) (by omega)).2])))) rfl))) (lcons (congrArg (Value.int .i64) (show 0 = (Sp.tmE (a * n)) from by (first | (rw [(Sp.tm_no (x := a * n) (by omega)).1]; decide) | (rw [(Sp.tm_no (x := a * n) (by omega)).2]) | (rw [(Sp.tm_yes (x := a * n) (by omega)).1]; congr 1; omega) | (rw [(Sp.tm_yes (x := a * n) (by omega)).2])))) rfl))))
        · have h10p : ¬ (((((((a.natAbs : Int) / 18446744073709551616) * m % 18446744073709551616) + (((a.natAbs : Int) % 18446744073709551616) * m / 18446744073709551616) + 0) % 18446744073709551616) = 9223372036854775808)) := by first | (simpa using h10) | (have h10q := h10; simp at h10q; omega) | (have h10q := bx2 h10; simp at h10q; omega)
          refine aw_p 2045 (
            .a 2 3 <|
            .p (does_i ((((a.natAbs : Int) / 18446744073709551616) * m / 18446744073709551616) + (((((a.natAbs : Int) / 18446744073709551616) * m % 18446744073709551616) + (((a.natAbs : Int) % 18446744073709551616) * m / 18446744073709551616) + 0) / 18446744073709551616)) (wrap_u64 (by omega) (by omega)) .u64) <|
            .p (does_b false (h8)) <| .a 2 3 <| .p (does_b false (h9)) <| .a 3 3 <| .p (does_b false (h10)) <| .a 9 3 <| .nil _ _) ?_
          refine aw_fl 4091 ?_
          refine aw_sk ?_
          refine then_normal ?_
          refine aw_p 2047 (
            .a 1 3 <|
            .p (does_i (Sp.wh ((a.natAbs : Int) / 18446744073709551616 * m * 18446744073709551616 + (a.natAbs : Int) % 18446744073709551616 * m)) ((show (IntKind.wrap .i64 (((((a.natAbs : Int) / 18446744073709551616) * m % 18446744073709551616) + (((a.natAbs : Int) % 18446744073709551616) * m / 18446744073709551616) + 0) % 18446744073709551616)) = (Sp.wh ((a.natAbs : Int) / 18446744073709551616 * m * 18446744073709551616 + (a.natAbs : Int) % 18446744073709551616 * m)) from (by rw [Sp.s64_any]; simp only [Sp.wh, Sp.s64]; omega))) .i64) <|
            .p (does_i (Sp.wl ((a.natAbs : Int) / 18446744073709551616 * m * 18446744073709551616 + (a.natAbs : Int) % 18446744073709551616 * m)) ((show (((a.natAbs : Int) % 18446744073709551616) * m % 18446744073709551616) = (Sp.wl ((a.natAbs : Int) / 18446744073709551616 * m * 18446744073709551616 + (a.natAbs : Int) % 18446744073709551616 * m)) from (by simp only [Sp.wl]; omega))) .u64) <|
            .a 3 3 <| .nil _ _) ?_
          refine aw_sq 4094 4095 ?_
          refine aw_p 8189 (
            .a 1 4 <| .nil _ _) ?_
          refine aw_cd 16378 16379 (!((decide (a < 0)) == (decide (n < 0)))) (fun h13 => ?_) (fun h13 => ?_)
          · have h13p : (¬ ((((a < 0)) ↔ ((n < 0))))) := by first | (simpa using h13) | (have h13q := h13; simp at h13q; omega) | (have h13q := bx3 h13; simp at h13q; omega)
            refine aw_p1 (
              .a 1 4 <| .p (does_c (wneg_ok ((a.natAbs : Int) / 18446744073709551616 * m * 18446744073709551616 + (a.natAbs : Int) % 18446744073709551616 * m))) <| .a 1 4 <| .nil _ _) ?_
            refine then_normal ?_
            refine aw_p 8191 (
              .a 3 4 <| .nil _ _) ?_
            refine aw_rt ?_
            exact en_ret [.agg #[.int .i64 (Sp.wh (-((a.natAbs : Int) / 18446744073709551616 * m * 18446744073709551616 + (a.natAbs : Int) % 18446744073709551616 * m))), .int .u64 (Sp.wl (-((a.natAbs : Int) / 18446744073709551616 * m * 18446744073709551616 + (a.natAbs : Int) % 18446744073709551616 * m)))], .int .i64 0] (show (.tuple #[.agg #[.int .i64 (Sp.wh (-((a.natAbs : Int) / 18446744073709551616 * m * 18446744073709551616 + (a.natAbs : Int) % 18446744073709551616 * m))), .int .u64 (Sp.wl (-((a.natAbs : Int) / 18446744073709551616 * m * 18446744073709551616 + (a.natAbs : Int) % 18446744073709551616 * m)))], .int .i64 0] : Value) = (.tuple #[.agg #[.int .i64 (Sp.wh (Sp.tm (a * n))), .int .u64 (Sp.wl (Sp.tm (a * n)))], .int .i64 (Sp.tmE (a * n))]) from (congrArg (fun z : List Value => Value.tuple z.toArray) (lcons (congrArg (fun z : List Value => Value.agg z.toArray) (lcons (congrArg (Value.int .i64) (show (Sp.wh (-((a.natAbs : Int) / 18446744073709551616 * m * 18446744073709551616 + (a.natAbs : Int) % 18446744073709551616 * m))) = (Sp.wh (Sp.tm (a * n))) from by (first | (rw [(Sp.tm_no (x := a * n) (by omega)).1]; decide) | (rw [(Sp.tm_no (x := a * n) (by omega)).2]) | (rw [(Sp.tm_yes (x := a * n) (by omega)).1]; congr 1; omega) | (rw [(Sp.tm_yes (x := a * n) (by omega)).2])))) (lcons (congrArg (Value.int .u64) (show (Sp.wl (-((a.natAbs : Int) / 18446744073709551616 * m * 18446744073709551616 + (a.natAbs : Int) % 18446744073709551616 * m))) = (Sp.wl (Sp.tm (a * n))) from by (first | (rw [(Sp.tm_no (x := a * n) (by omega)).1]; decide) | (rw [(Sp.tm_no (x := a * n) (by omega)).2]) | (rw [(Sp.tm_yes (x := a * n) (by omega)).1]; congr 1; omega) | (rw [(Sp.tm_yes (x := a * n) (by omega)).2])))) rfl))) (lcons (congrArg (Value.int .i64) (show 0 = (Sp.tmE (a * n)) from by (first | (rw [(Sp.tm_no (x := a * n) (by omega)).1]; decide) | (rw [(Sp.tm_no (x := a * n) (by omega)).2]) | (rw [(Sp.tm_yes (x := a * n) (by omega)).1]; congr 1; omega) | (rw [(Sp.tm_yes (x := a * n) (by omega)).2])))) rfl))))
          · have h13p : ¬ (¬ ((((a < 0)) ↔ ((n < 0))))) := by first | (simpa using h13) | (have h13q := h13; simp at h13q; omega) | (have h13q := bx4 h13; simp at h13q; omega)
            refine aw_sk ?_
            refine then_normal ?_
            refine aw_p 8191 (
              .a 3 4 <| .nil _ _) ?_
            refine aw_rt ?_
            exact en_ret [.agg #[.int .i64 (Sp.wh ((a.natAbs : Int) / 18446744073709551616 * m * 18446744073709551616 + (a.natAbs : Int) % 18446744073709551616 * m)), .int .u64 (Sp.wl ((a.natAbs : Int) / 18446744073709551616 * m * 18446744073709551616 + (a.natAbs : Int) % 18446744073709551616 * m))], .int .i64 0] (show (.tuple #[.agg #[.int .i64 (Sp.wh ((a.natAbs : Int) / 18446744073709551616 * m * 18446744073709551616 + (a.natAbs : Int) % 18446744073709551616 * m)), .int .u64 (Sp.wl ((a.natAbs : Int) / 18446744073709551616 * m * 18446744073709551616 + (a.natAbs : Int) % 18446744073709551616 * m))], .int .i64 0] : Value) = (.tuple #[.agg #[.int .i64 (Sp.wh (Sp.tm (a * n))), .int .u64 (Sp.wl (Sp.tm (a * n)))], .int .i64 (Sp.tmE (a * n))]) from (congrArg (fun z : List Value => Value.tuple z.toArray) (lcons (congrArg (fun z : List Value => Value.agg z.toArray) (lcons (congrArg (Value.int .i64) (show (Sp.wh ((a.natAbs : Int) / 18446744073709551616 * m * 18446744073709551616 + (a.natAbs : Int) % 18446744073709551616 * m)) = (Sp.wh (Sp.tm (a * n))) from by (first | (rw [(Sp.tm_no (x := a * n) (by omega)).1]; decide) | (rw [(Sp.tm_no (x := a * n) (by omega)).2]) | (rw [(Sp.tm_yes (x := a * n) (by omega)).1]; congr 1; omega) | (rw [(Sp.tm_yes (x := a * n) (by omega)).2])))) (lcons (congrArg (Value.int .u64) (show (Sp.wl ((a.natAbs : Int) / 18446744073709551616 * m * 18446744073709551616 + (a.natAbs : Int) % 18446744073709551616 * m)) = (Sp.wl (Sp.tm (a * n))) from by (first | (rw [(Sp.tm_no (x := a * n) (by omega)).1]; decide) | (rw [(Sp.tm_no (x := a * n) (by omega)).2]) | (rw [(Sp.tm_yes (x := a * n) (by omega)).1]; congr 1; omega) | (rw [(Sp.tm_yes (x := a * n) (by omega)).2])))) rfl))) (lcons (congrArg (Value.int .i64) (show 0 = (Sp.tmE (a * n)) from by (first | (rw [(Sp.tm_no (x := a * n) (by omega)).1]; decide) | (rw [(Sp.tm_no (x := a * n) (by omega)).2]) | (rw [(Sp.tm_yes (x := a * n) (by omega)).1]; congr 1; omega) | (rw [(Sp.tm_yes (x := a * n) (by omega)).2])))) rfl))))


end Go.Proofs.Ytadifmimefmcnaa.Am
