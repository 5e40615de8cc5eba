/-
  The walks of numbers of 128 bits, second part.
-/
import Derived.Test.YtngmegnaohmapaaDoorProg
import Derived.Test.YtngmegnaohmapaaDoorAm16
import Derived.Test.YtngmegnaohmapaaDoorWd1
import Derived.Test.YtngmegnaohmapaaDoorNc7
namespace Go.Proofs.YtngmegnaohmapaaDoor.Am
open Go Go.Proofs
set_option maxRecDepth 100000
set_option maxHeartbeats 4000000
set_option linter.unusedVariables false
set_option linter.unusedSimpArgs false

theorem wadd_ok (a b : Int) :
    AC Tryd.prog 52 0 ([.agg #[.int .i64 (Sp.wh a), .int .u64 (Sp.wl a)], .agg #[.int .i64 (Sp.wh b), .int .u64 (Sp.wl b)]]) [] (.agg #[.int .i64 (Sp.wh (a + b)), .int .u64 (Sp.wl (a + b))]) [] := by
  have wla := Sp.wl_bd a; have wha := Sp.wh_bd a; have wlb := Sp.wl_bd b; have whb := Sp.wh_bd b
  refine ac_in Tryd.func52 (fun w0 W pin => ?_)
  refine aw_p 3 (
    .a 3 1 <| .nil _ _) ?_
  refine aw_p 7 (
    .a 4 4 <| .p (does_x (run_add64 Tryd.func69 (by kernel_rfl) (by kernel_rfl) (by kernel_rfl) (by kernel_rfl) (Sp.wl a) (Sp.wl b) 0 (by omega) (by omega) (by omega) (by omega))) <| .a 5 4 <| .nil _ _) ?_
  refine aw_p 15 (
    .a 2 4 <| .p (does_i ((Sp.wh a) % 18446744073709551616) (Sp.ulow) .u64) <| .a 2 4 <| .p (does_i ((Sp.wh b) % 18446744073709551616) (Sp.ulow) .u64) <| .a 1 4 <|
    .p (does_x (run_add64 Tryd.func69 (by kernel_rfl) (by kernel_rfl) (by kernel_rfl) (by kernel_rfl) ((Sp.wh a) % 18446744073709551616) ((Sp.wh b) % 18446744073709551616) (((Sp.wl a) + (Sp.wl b) + 0) / 18446744073709551616) (by omega) (by omega) (by omega) (by omega))) <| .a 5 4 <| .nil _ _) ?_
  refine aw_w [(4, .pointer (some ⟨3, 0, none⟩)), (5, .int .u64 (((Sp.wl a) + (Sp.wl b) + 0) % 18446744073709551616)), (7, .int .u64 ((((Sp.wh a) % 18446744073709551616) + ((Sp.wh b) % 18446744073709551616) + (((Sp.wl a) + (Sp.wl b) + 0) / 18446744073709551616)) % 18446744073709551616))] [(3, ⟨[.int .i64 0, .int .u64 0], 68, true, 2⟩)] ?_
  refine aw_p 31 (
    .a 1 4 <| .p (does_i (Sp.s64 ((((Sp.wh a) % 18446744073709551616) + ((Sp.wh b) % 18446744073709551616) + (((Sp.wl a) + (Sp.wl b) + 0) / 18446744073709551616)) % 18446744073709551616)) (Sp.s64_any _) .i64) <| .a 3 4 <| .nil _ _) ?_
  refine aw_rt ?_
  exact en_ret [.agg #[.int .i64 (Sp.s64 ((((Sp.wh a) % 18446744073709551616) + ((Sp.wh b) % 18446744073709551616) + (((Sp.wl a) + (Sp.wl b) + 0) / 18446744073709551616)) % 18446744073709551616)), .int .u64 (((Sp.wl a) + (Sp.wl b) + 0) % 18446744073709551616)]] (show (.agg #[.int .i64 (Sp.s64 ((((Sp.wh a) % 18446744073709551616) + ((Sp.wh b) % 18446744073709551616) + (((Sp.wl a) + (Sp.wl b) + 0) / 18446744073709551616)) % 18446744073709551616)), .int .u64 (((Sp.wl a) + (Sp.wl b) + 0) % 18446744073709551616)] : Value) = (.agg #[.int .i64 (Sp.wh (a + b)), .int .u64 (Sp.wl (a + b))]) from (congrArg (fun z : List Value => Value.agg z.toArray) (lcons (congrArg (Value.int .i64) (show (Sp.s64 ((((Sp.wh a) % 18446744073709551616) + ((Sp.wh b) % 18446744073709551616) + (((Sp.wl a) + (Sp.wl b) + 0) / 18446744073709551616)) % 18446744073709551616)) = (Sp.wh (a + b)) from by (simp only [Sp.wh, Sp.wl, Sp.s64] at *; omega))) (lcons (congrArg (Value.int .u64) (show (((Sp.wl a) + (Sp.wl b) + 0) % 18446744073709551616) = (Sp.wl (a + b)) from by (simp only [Sp.wh, Sp.wl, Sp.s64] at *; omega))) rfl))))

theorem wsub_ok (a b : Int) :
    AC Tryd.prog 97 0 ([.agg #[.int .i64 (Sp.wh a), .int .u64 (Sp.wl a)], .agg #[.int .i64 (Sp.wh b), .int .u64 (Sp.wl b)]]) [] (.agg #[.int .i64 (Sp.wh (a - b)), .int .u64 (Sp.wl (a - b))]) [] := by
  have wla := Sp.wl_bd a; have wha := Sp.wh_bd a; have wlb := Sp.wl_bd b; have whb := Sp.wh_bd b
  refine ac_in Tryd.func97 (fun w0 W pin => ?_)
  refine aw_p 3 (
    .a 3 1 <| .nil _ _) ?_
  refine aw_p 7 (
    .a 4 4 <| .p (does_x (run_sub64 Tryd.func106 (by kernel_rfl) (by kernel_rfl) (by kernel_rfl) (by kernel_rfl) (Sp.wl a) (Sp.wl b) 0 (by omega) (by omega) (by omega) (by omega) (by omega) (by omega))) <| .a 5 4 <| .nil _ _) ?_
  refine aw_p 15 (
    .a 2 4 <| .p (does_i ((Sp.wh a) % 18446744073709551616) (Sp.ulow) .u64) <| .a 2 4 <| .p (does_i ((Sp.wh b) % 18446744073709551616) (Sp.ulow) .u64) <| .a 1 4 <|
    .p (does_x (run_sub64 Tryd.func106 (by kernel_rfl) (by kernel_rfl) (by kernel_rfl) (by kernel_rfl) ((Sp.wh a) % 18446744073709551616) ((Sp.wh b) % 18446744073709551616) (-(((Sp.wl a) - (Sp.wl b) - 0) / 18446744073709551616)) (by omega) (by omega) (by omega) (by omega) (by omega) (by omega))) <|
    .a 5 4 <| .nil _ _) ?_
  refine aw_w [(4, .pointer (some ⟨3, 0, none⟩)), (5, .int .u64 (((Sp.wl a) - (Sp.wl b) - 0) % 18446744073709551616)), (7, .int .u64 ((((Sp.wh a) % 18446744073709551616) - ((Sp.wh b) % 18446744073709551616) - (-(((Sp.wl a) - (Sp.wl b) - 0) / 18446744073709551616))) % 18446744073709551616))] [(3, ⟨[.int .i64 0, .int .u64 0], 68, true, 2⟩)] ?_
  refine aw_p 31 (
    .a 1 4 <| .p (does_i (Sp.s64 ((((Sp.wh a) % 18446744073709551616) - ((Sp.wh b) % 18446744073709551616) - (-(((Sp.wl a) - (Sp.wl b) - 0) / 18446744073709551616))) % 18446744073709551616)) (Sp.s64_any _) .i64) <| .a 3 4 <| .nil _ _) ?_
  refine aw_rt ?_
  exact en_ret [.agg #[.int .i64 (Sp.s64 ((((Sp.wh a) % 18446744073709551616) - ((Sp.wh b) % 18446744073709551616) - (-(((Sp.wl a) - (Sp.wl b) - 0) / 18446744073709551616))) % 18446744073709551616)), .int .u64 (((Sp.wl a) - (Sp.wl b) - 0) % 18446744073709551616)]] (show (.agg #[.int .i64 (Sp.s64 ((((Sp.wh a) % 18446744073709551616) - ((Sp.wh b) % 18446744073709551616) - (-(((Sp.wl a) - (Sp.wl b) - 0) / 18446744073709551616))) % 18446744073709551616)), .int .u64 (((Sp.wl a) - (Sp.wl b) - 0) % 18446744073709551616)] : Value) = (.agg #[.int .i64 (Sp.wh (a - b)), .int .u64 (Sp.wl (a - b))]) from (congrArg (fun z : List Value => Value.agg z.toArray) (lcons (congrArg (Value.int .i64) (show (Sp.s64 ((((Sp.wh a) % 18446744073709551616) - ((Sp.wh b) % 18446744073709551616) - (-(((Sp.wl a) - (Sp.wl b) - 0) / 18446744073709551616))) % 18446744073709551616)) = (Sp.wh (a - b)) from by (simp only [Sp.wh, Sp.wl, Sp.s64] at *; omega))) (lcons (congrArg (Value.int .u64) (show (((Sp.wl a) - (Sp.wl b) - 0) % 18446744073709551616) = (Sp.wl (a - b)) from by (simp only [Sp.wh, Sp.wl, Sp.s64] at *; omega))) rfl))))

theorem wneg_ok (a : Int) :
    AC Tryd.prog 84 0 ([.agg #[.int .i64 (Sp.wh a), .int .u64 (Sp.wl a)]]) [] (.agg #[.int .i64 (Sp.wh (-a)), .int .u64 (Sp.wl (-a))]) [] := by
  refine ac_in Tryd.func84 (fun w0 W pin => ?_)
  refine aw_p 3 (
    .a 2 1 <| .nil _ _) ?_
  refine aw_p 7 (
    .a 2 3 <| .p (does_c (wsub_ok 0 a)) <| .a 1 3 <| .nil _ _) ?_
  refine aw_rt ?_
  exact en_ret [.agg #[.int .i64 (Sp.wh (0 - a)), .int .u64 (Sp.wl (0 - a))]] (show (.agg #[.int .i64 (Sp.wh (0 - a)), .int .u64 (Sp.wl (0 - a))] : Value) = (.agg #[.int .i64 (Sp.wh (-a)), .int .u64 (Sp.wl (-a))]) from (congrArg (fun z : List Value => Value.agg z.toArray) (lcons (congrArg (Value.int .i64) (show (Sp.wh (0 - a)) = (Sp.wh (-a)) from by (rw [Int.zero_sub]))) (lcons (congrArg (Value.int .u64) (show (Sp.wl (0 - a)) = (Sp.wl (-a)) from by (rw [Int.zero_sub]))) rfl))))

theorem wcmp_ok (a b : Int) (zla : -170141183460469231731687303715884105728 ≤ a) (zua : a < 170141183460469231731687303715884105728) (zlb : -170141183460469231731687303715884105728 ≤ b) (zub : b < 170141183460469231731687303715884105728) :
    AC Tryd.prog 39 0 ([.agg #[.int .i64 (Sp.wh a), .int .u64 (Sp.wl a)], .agg #[.int .i64 (Sp.wh b), .int .u64 (Sp.wl b)]]) [] (.int .i64 (Sp.cmp a b)) [] := by
  have wla := Sp.wl_bd a; have wha := Sp.wh_bd a; have wia := Sp.wh_id zla zua; have wma : Sp.wl a = a % 18446744073709551616 := rfl; have wlb := Sp.wl_bd b; have whb := Sp.wh_bd b; have wib := Sp.wh_id zlb zub; have wmb : Sp.wl b = b % 18446744073709551616 := rfl
  refine ac_in Tryd.func39 (fun w0 W pin => ?_)
  refine aw_p 3 (
    .a 3 1 <| .nil _ _) ?_
  refine aw_sq 6 7 ?_
  refine aw_bl 0 13 ?_
  refine aw_p 27 (
    .a 2 3 <| .p (does_e (decide (a = b)) (Sp.w_eq zla zua zlb zub)) <| .a 1 3 <| .nil _ _) ?_
  refine aw_cd 54 55 (decide (a = b)) (fun h1 => ?_) (fun h1 => ?_)
  · have h1p : ((a = b)) := by first | (simpa using h1) | (have h1q := h1; simp at h1q; omega) | (have h1q := bx1 h1; simp at h1q; omega)
    refine aw_p 109 (
      .a 1 3 <| .nil _ _) ?_
    refine aw_rt ?_
    refine block_ret ?_
    refine then_ret ?_
    exact en_ret [.int .i64 0] (show (.int .i64 0 : Value) = (.int .i64 (Sp.cmp a b)) from (congrArg (Value.int .i64) (show 0 = (Sp.cmp a b) from by (simp only [Sp.cmp]; (repeat' split) <;> omega))))
  · have h1p : ¬ ((a = b)) := by first | (simpa using h1) | (have h1q := h1; simp at h1q; omega) | (have h1q := bx2 h1; simp at h1q; omega)
    rcases Bool.eq_false_or_eq_true (decide ((Sp.wh a) < (Sp.wh b))) with h2 | h2
    · have h2p : (((Sp.wh a) < (Sp.wh b))) := by first | (simpa using h2) | (have h2q := h2; simp at h2q; omega) | (have h2q := bx1 h2; simp at h2q; omega)
      refine aw_p 111 (
        .a 4 3 <| .p (does_b true (h2)) <| .a 15 3 <| .nil _ _) ?_
      refine aw_tr 222 ?_
      refine aw_p 445 (
        .a 1 3 <| .nil _ _) ?_
      refine aw_rt ?_
      refine block_ret ?_
      refine then_ret ?_
      exact en_ret [.int .i64 (-1)] (show (.int .i64 (-1) : Value) = (.int .i64 (Sp.cmp a b)) from (congrArg (Value.int .i64) (show (-1) = (Sp.cmp a b) from by (simp only [Sp.cmp]; (repeat' split) <;> omega))))
    · have h2p : ¬ (((Sp.wh a) < (Sp.wh b))) := by first | (simpa using h2) | (have h2q := h2; simp at h2q; omega) | (have h2q := bx2 h2; simp at h2q; omega)
      rcases Bool.eq_false_or_eq_true ((Sp.wh a) == (Sp.wh b)) with h3 | h3
      · have h3p : (((Sp.wh a) = (Sp.wh b))) := by first | (simpa using h3) | (have h3q := h3; simp at h3q; omega) | (have h3q := bx1 h3; simp at h3q; omega)
        refine aw_p 111 (
          .a 4 3 <| .p (does_b false (h2)) <| .a 5 3 <| .p (does_b true (h3)) <| .a 9 3 <| .nil _ _) ?_
        refine aw_cd 222 223 (decide ((Sp.wl a) < (Sp.wl b))) (fun h4 => ?_) (fun h4 => ?_)
        · have h4p : (((Sp.wl a) < (Sp.wl b))) := by first | (simpa using h4) | (have h4q := h4; simp at h4q; omega) | (have h4q := bx1 h4; simp at h4q; omega)
          refine aw_p 445 (
            .a 1 3 <| .nil _ _) ?_
          refine aw_rt ?_
          refine block_ret ?_
          refine then_ret ?_
          exact en_ret [.int .i64 (-1)] (show (.int .i64 (-1) : Value) = (.int .i64 (Sp.cmp a b)) from (congrArg (Value.int .i64) (show (-1) = (Sp.cmp a b) from by (simp only [Sp.cmp]; (repeat' split) <;> omega))))
        · have h4p : ¬ (((Sp.wl a) < (Sp.wl b))) := by first | (simpa using h4) | (have h4q := h4; simp at h4q; omega) | (have h4q := bx2 h4; simp at h4q; omega)
          refine aw_sk ?_
          refine block_normal ?_
          refine then_normal ?_
          refine aw_p 15 (
            .a 1 3 <| .nil _ _) ?_
          refine aw_rt ?_
          exact en_ret [.int .i64 1] (show (.int .i64 1 : Value) = (.int .i64 (Sp.cmp a b)) from (congrArg (Value.int .i64) (show 1 = (Sp.cmp a b) from by (simp only [Sp.cmp]; (repeat' split) <;> omega))))
      · have h3p : ¬ (((Sp.wh a) = (Sp.wh b))) := by first | (simpa using h3) | (have h3q := h3; simp at h3q; omega) | (have h3q := bx2 h3; simp at h3q; omega)
        refine aw_p 111 (
          .a 4 3 <| .p (does_b false (h2)) <| .a 5 3 <| .p (does_b false (h3)) <| .a 9 3 <| .nil _ _) ?_
        refine aw_fl 223 ?_
        refine aw_sk ?_
        refine block_normal ?_
        refine then_normal ?_
        refine aw_p 15 (
          .a 1 3 <| .nil _ _) ?_
        refine aw_rt ?_
        exact en_ret [.int .i64 1] (show (.int .i64 1 : Value) = (.int .i64 (Sp.cmp a b)) from (congrArg (Value.int .i64) (show 1 = (Sp.cmp a b) from by (simp only [Sp.cmp]; (repeat' split) <;> omega))))

theorem wmag_ok (a : Int) (zla : -170141183460469231731687303715884105728 ≤ a) (zua : a < 170141183460469231731687303715884105728) :
    AC Tryd.prog 83 0 ([.agg #[.int .i64 (Sp.wh a), .int .u64 (Sp.wl a)]]) [] (.tuple #[.int .u64 ((a.natAbs : Int) / 18446744073709551616), .int .u64 ((a.natAbs : Int) % 18446744073709551616)]) [] := by
  have wla := Sp.wl_bd a; have wha := Sp.wh_bd a; have wia := Sp.wh_id zla zua; have wma : Sp.wl a = a % 18446744073709551616 := rfl
  refine ac_in Tryd.func83 (fun w0 W pin => ?_)
  refine aw_p 3 (
    .a 3 1 <| .nil _ _) ?_
  refine aw_sq 6 7 ?_
  refine aw_p 13 (
    .a 2 2 <| .p (does_b (decide (a < 0)) (Sp.wh_neg zla zua)) <| .nil _ _) ?_
  refine aw_cd 26 27 (decide (a < 0)) (fun h1 => ?_) (fun h1 => ?_)
  · have h1p : ((a < 0)) := by first | (simpa using h1) | (have h1q := h1; simp at h1q; omega) | (have h1q := bx1 h1; simp at h1q; omega)
    refine aw_p1 (
      .a 1 2 <| .p (does_c (wneg_ok a)) <| .a 1 2 <| .nil _ _) ?_
    refine then_normal ?_
    refine aw_d 15 (
      .a 2 2 <| .p (does_i ((Sp.wh (-a)) % 18446744073709551616) (Sp.ulow) .u64) <| .a 4 2 <| .nil _ _) ?_
    refine aw_rt ?_
    exact en_ret [.int .u64 ((Sp.wh (-a)) % 18446744073709551616), .int .u64 (Sp.wl (-a))] (show (.tuple #[.int .u64 ((Sp.wh (-a)) % 18446744073709551616), .int .u64 (Sp.wl (-a))] : Value) = (.tuple #[.int .u64 ((a.natAbs : Int) / 18446744073709551616), .int .u64 ((a.natAbs : Int) % 18446744073709551616)]) from (congrArg (fun z : List Value => Value.tuple z.toArray) (lcons (congrArg (Value.int .u64) (show ((Sp.wh (-a)) % 18446744073709551616) = ((a.natAbs : Int) / 18446744073709551616) from by (simp only [Sp.wh, Sp.wl, Sp.s64] at *; omega))) (lcons (congrArg (Value.int .u64) (show (Sp.wl (-a)) = ((a.natAbs : Int) % 18446744073709551616) from by (simp only [Sp.wh, Sp.wl, Sp.s64] at *; omega))) rfl))))
  · have h1p : ¬ ((a < 0)) := by first | (simpa using h1) | (have h1q := h1; simp at h1q; omega) | (have h1q := bx2 h1; simp at h1q; omega)
    refine aw_sk ?_
    refine then_normal ?_
    refine aw_d 15 (
      .a 2 2 <| .p (does_i ((Sp.wh a) % 18446744073709551616) (Sp.ulow) .u64) <| .a 4 2 <| .nil _ _) ?_
    refine aw_rt ?_
    exact en_ret [.int .u64 ((Sp.wh a) % 18446744073709551616), .int .u64 (Sp.wl a)] (show (.tuple #[.int .u64 ((Sp.wh a) % 18446744073709551616), .int .u64 (Sp.wl a)] : Value) = (.tuple #[.int .u64 ((a.natAbs : Int) / 18446744073709551616), .int .u64 ((a.natAbs : Int) % 18446744073709551616)]) from (congrArg (fun z : List Value => Value.tuple z.toArray) (lcons (congrArg (Value.int .u64) (show ((Sp.wh a) % 18446744073709551616) = ((a.natAbs : Int) / 18446744073709551616) from by (simp only [Sp.wh, Sp.wl, Sp.s64] at *; omega))) (lcons (congrArg (Value.int .u64) (show (Sp.wl a) = ((a.natAbs : Int) % 18446744073709551616) from by (simp only [Sp.wh, Sp.wl, Sp.s64] at *; omega))) rfl))))

theorem wtimes_ok (a n : Int) (zla : -170141183460469231731687303715884105728 ≤ a) (zua : a < 170141183460469231731687303715884105728) (zln : -9223372036854775808 ≤ n) (zun : n ≤ 9223372036854775807) :
    AC Tryd.prog 62 0 ([.agg #[.int .i64 (Sp.wh a), .int .u64 (Sp.wl a)], .int .i64 n]) [] (.tuple #[.agg #[.int .i64 (Sp.wh (Sp.tm (a * n))), .int .u64 (Sp.wl (Sp.tm (a * n)))], .int .i64 (Sp.tmE (a * n))]) [] := by
  have wla := Sp.wl_bd a; have wha := Sp.wh_bd a; have wia := Sp.wh_id zla zua; have wma : Sp.wl a = a % 18446744073709551616 := rfl
  refine ac_in Tryd.func62 (fun w0 W pin => ?_)
  refine aw_p 3 (
    .a 3 1 <| .nil _ _) ?_
  refine aw_p 7 (
    .a 2 3 <| .p (does_b (decide (a < 0)) (Sp.wh_neg zla zua)) <| .a 4 3 <| .nil _ _) ?_
  refine aw_p 15 (
    .a 1 3 <| .p (does_c (wmag_ok a (by omega) (by omega))) <| .a 5 3 <| .nil _ _) ?_
  refine aw_p 31 (
    .a 1 3 <| .p (does_i (n % 18446744073709551616) (Sp.ulow) .u64) <| .a 1 3 <| .nil _ _) ?_
  refine aw_sq 62 63 ?_
  refine aw_p 125 (
    .a 2 3 <| .nil _ _) ?_
  refine aw_cd 250 251 (decide (n < 0)) (fun h1 => ?_) (fun h1 => ?_)
  · have h1p : ((n < 0)) := by first | (simpa using h1) | (have h1q := h1; simp at h1q; omega) | (have h1q := bx1 h1; simp at h1q; omega)
    refine aw_p1 (
      .a 1 3 <| .p (does_i (n.natAbs : Int) ((show (IntKind.wrap .u64 (0 - (n % 18446744073709551616))) = (n.natAbs : Int) from (by rw [IntKind.wrap_u64]; omega))) .u64) <| .a 1 3 <| .nil _ _) ?_
    refine then_normal ?_
    refine aw_gen (fun z : Int => (fun (m : Int) => mkSt 0 [(4, .pointer (some ⟨2, 0, none⟩)), (5, .int .i64 0), (6, .bool (!((decide (a < 0)) == (decide (n < 0))))), (7, .int .u64 ((a.natAbs : Int) / 18446744073709551616)), (8, .int .u64 ((a.natAbs : Int) % 18446744073709551616)), (9, .int .u64 m)] [(2, ⟨[.int .i64 0, .int .u64 0], 68, true, 2⟩)]) z) (fun z : Int => (fun (m : Int) => (m = (n.natAbs : Int))) z) ((n.natAbs : Int)) (show ((n.natAbs : Int) = (n.natAbs : Int)) from by omega) [(4, .pointer (some ⟨2, 0, none⟩)), (5, .int .i64 0), (6, .bool (!((decide (a < 0)) == (decide (n < 0))))), (7, .int .u64 ((a.natAbs : Int) / 18446744073709551616)), (8, .int .u64 ((a.natAbs : Int) % 18446744073709551616)), (9, .int .u64 (n.natAbs : Int))] [(2, ⟨[.int .i64 0, .int .u64 0], 68, true, 2⟩)] (fun z hz => ?_)
    obtain ⟨m, hv⟩ : ∃ y, y = z := ⟨z, rfl⟩; subst hv
    have hz' : (m = (n.natAbs : Int)) := hz
    have hm := hz'
    clear hz
    obtain ⟨ph0, ph1, pl0, pl1, pa, pb⟩ := Sp.times_parts zla zua zln zun hm
    show AW _ _ _ (mkSt 0 [(4, .pointer (some ⟨2, 0, none⟩)), (5, .int .i64 0), (6, .bool (!((decide (a < 0)) == (decide (n < 0))))), (7, .int .u64 ((a.natAbs : Int) / 18446744073709551616)), (8, .int .u64 ((a.natAbs : Int) % 18446744073709551616)), (9, .int .u64 m)] [(2, ⟨[.int .i64 0, .int .u64 0], 68, true, 2⟩)]) _
    refine aw_p 127 (
      .a 2 3 <| .p (does_c (mul64_ok ((a.natAbs : Int) / 18446744073709551616) m (by omega) (by omega) (by omega) (by omega))) <| .a 5 3 <| .nil _ _) ?_
    refine aw_p 255 (
      .a 2 3 <| .p (does_c (mul64_ok ((a.natAbs : Int) % 18446744073709551616) m (by omega) (by omega) (by omega) (by omega))) <| .a 5 3 <| .nil _ _) ?_
    refine aw_p 511 (
      .a 2 3 <| .p (does_x (run_add64 Tryd.func69 (by kernel_rfl) (by kernel_rfl) (by kernel_rfl) (by kernel_rfl) (((a.natAbs : Int) / 18446744073709551616) * m % 18446744073709551616) (((a.natAbs : Int) % 18446744073709551616) * m / 18446744073709551616) 0 (by omega) (by omega) (by omega) (by omega))) <|
      .a 5 3 <| .nil _ _) ?_
    refine aw_sq 1022 1023 ?_
    rcases Bool.eq_false_or_eq_true (decide (((((a.natAbs : Int) / 18446744073709551616) * m / 18446744073709551616) + (((((a.natAbs : Int) / 18446744073709551616) * m % 18446744073709551616) + (((a.natAbs : Int) % 18446744073709551616) * m / 18446744073709551616) + 0) / 18446744073709551616)) > 0)) with h2 | h2
    · have h2p : ((((((a.natAbs : Int) / 18446744073709551616) * m / 18446744073709551616) + (((((a.natAbs : Int) / 18446744073709551616) * m % 18446744073709551616) + (((a.natAbs : Int) % 18446744073709551616) * m / 18446744073709551616) + 0) / 18446744073709551616)) > 0)) := by first | (simpa using h2) | (have h2q := h2; simp at h2q; omega) | (have h2q := bx1 h2; simp at h2q; omega)
      refine aw_p 2045 (
        .a 2 3 <|
        .p (does_i ((((a.natAbs : Int) / 18446744073709551616) * m / 18446744073709551616) + (((((a.natAbs : Int) / 18446744073709551616) * m % 18446744073709551616) + (((a.natAbs : Int) % 18446744073709551616) * m / 18446744073709551616) + 0) / 18446744073709551616)) (wrap_u64 (by omega) (by omega)) .u64) <|
        .p (does_b true (h2)) <| .a 16 3 <| .nil _ _) ?_
      refine aw_tr 4090 ?_
      refine aw_p 8181 (
        .a 3 3 <| .nil _ _) ?_
      refine aw_rt ?_
      refine then_ret ?_
      exact en_ret [.agg #[.int .i64 0, .int .u64 0], .int .i64 2] (show (.tuple #[.agg #[.int .i64 0, .int .u64 0], .int .i64 2] : Value) = (.tuple #[.agg #[.int .i64 (Sp.wh (Sp.tm (a * n))), .int .u64 (Sp.wl (Sp.tm (a * n)))], .int .i64 (Sp.tmE (a * n))]) from (congrArg (fun z : List Value => Value.tuple z.toArray) (lcons (congrArg (fun z : List Value => Value.agg z.toArray) (lcons (congrArg (Value.int .i64) (show 0 = (Sp.wh (Sp.tm (a * n))) from by (first | (rw [(Sp.tm_no (x := a * n) (by omega)).1]; decide) | (rw [(Sp.tm_no (x := a * n) (by omega)).2]) | (rw [(Sp.tm_yes (x := a * n) (by omega)).1]; congr 1; omega) | (rw [(Sp.tm_yes (x := a * n) (by omega)).2])))) (lcons (congrArg (Value.int .u64) (show 0 = (Sp.wl (Sp.tm (a * n))) from by (first | (rw [(Sp.tm_no (x := a * n) (by omega)).1]; decide) | (rw [(Sp.tm_no (x := a * n) (by omega)).2]) | (rw [(Sp.tm_yes (x := a * n) (by omega)).1]; congr 1; omega) | (rw [(Sp.tm_yes (x := a * n) (by omega)).2])))) rfl))) (lcons (congrArg (Value.int .i64) (show 2 = (Sp.tmE (a * n)) from by (first | (rw [(Sp.tm_no (x := a * n) (by omega)).1]; decide) | (rw [(Sp.tm_no (x := a * n) (by omega)).2]) | (rw [(Sp.tm_yes (x := a * n) (by omega)).1]; congr 1; omega) | (rw [(Sp.tm_yes (x := a * n) (by omega)).2])))) rfl))))
    · have h2p : ¬ ((((((a.natAbs : Int) / 18446744073709551616) * m / 18446744073709551616) + (((((a.natAbs : Int) / 18446744073709551616) * m % 18446744073709551616) + (((a.natAbs : Int) % 18446744073709551616) * m / 18446744073709551616) + 0) / 18446744073709551616)) > 0)) := by first | (simpa using h2) | (have h2q := h2; simp at h2q; omega) | (have h2q := bx2 h2; simp at h2q; omega)
      rcases Bool.eq_false_or_eq_true (decide ((((((a.natAbs : Int) / 18446744073709551616) * m % 18446744073709551616) + (((a.natAbs : Int) % 18446744073709551616) * m / 18446744073709551616) + 0) % 18446744073709551616) > 9223372036854775808)) with h3 | h3
      · have h3p : (((((((a.natAbs : Int) / 18446744073709551616) * m % 18446744073709551616) + (((a.natAbs : Int) % 18446744073709551616) * m / 18446744073709551616) + 0) % 18446744073709551616) > 9223372036854775808)) := by first | (simpa using h3) | (have h3q := h3; simp at h3q; omega) | (have h3q := bx1 h3; simp at h3q; omega)
        refine aw_p 2045 (
          .a 2 3 <|
          .p (does_i ((((a.natAbs : Int) / 18446744073709551616) * m / 18446744073709551616) + (((((a.natAbs : Int) / 18446744073709551616) * m % 18446744073709551616) + (((a.natAbs : Int) % 18446744073709551616) * m / 18446744073709551616) + 0) / 18446744073709551616)) (wrap_u64 (by omega) (by omega)) .u64) <|
          .p (does_b false (h2)) <| .a 2 3 <| .p (does_b true (h3)) <| .a 13 3 <| .nil _ _) ?_
        refine aw_tr 4090 ?_
        refine aw_p 8181 (
          .a 3 3 <| .nil _ _) ?_
        refine aw_rt ?_
        refine then_ret ?_
        exact en_ret [.agg #[.int .i64 0, .int .u64 0], .int .i64 2] (show (.tuple #[.agg #[.int .i64 0, .int .u64 0], .int .i64 2] : Value) = (.tuple #[.agg #[.int .i64 (Sp.wh (Sp.tm (a * n))), .int .u64 (Sp.wl (Sp.tm (a * n)))], .int .i64 (Sp.tmE (a * n))]) from (congrArg (fun z : List Value => Value.tuple z.toArray) (lcons (congrArg (fun z : List Value => Value.agg z.toArray) (lcons (congrArg (Value.int .i64) (show 0 = (Sp.wh (Sp.tm (a * n))) from by (first | (rw [(Sp.tm_no (x := a * n) (by omega)).1]; decide) | (rw [(Sp.tm_no (x := a * n) (by omega)).2]) | (rw [(Sp.tm_yes (x := a * n) (by omega)).1]; congr 1; omega) | (rw [(Sp.tm_yes (x := a * n) (by omega)).2])))) (lcons (congrArg (Value.int .u64) (show 0 = (Sp.wl (Sp.tm (a * n))) from by (first | (rw [(Sp.tm_no (x := a * n) (by omega)).1]; decide) | (rw [(Sp.tm_no (x := a * n) (by omega)).2]) | (rw [(Sp.tm_yes (x := a * n) (by omega)).1]; congr 1; omega) | (rw [(Sp.tm_yes (x := a * n) (by omega)).2])))) rfl))) (lcons (congrArg (Value.int .i64) (show 2 = (Sp.tmE (a * n)) from by (first | (rw [(Sp.tm_no (x := a * n) (by omega)).1]; decide) | (rw [(Sp.tm_no (x := a * n) (by omega)).2]) | (rw [(Sp.tm_yes (x := a * n) (by omega)).1]; congr 1; omega) | (rw [(Sp.tm_yes (x := a * n) (by omega)).2])))) rfl))))
      · have h3p : ¬ (((((((a.natAbs : Int) / 18446744073709551616) * m % 18446744073709551616) + (((a.natAbs : Int) % 18446744073709551616) * m / 18446744073709551616) + 0) % 18446744073709551616) > 9223372036854775808)) := by first | (simpa using h3) | (have h3q := h3; simp at h3q; omega) | (have h3q := bx2 h3; simp at h3q; omega)
        rcases Bool.eq_false_or_eq_true ((((((a.natAbs : Int) / 18446744073709551616) * m % 18446744073709551616) + (((a.natAbs : Int) % 18446744073709551616) * m / 18446744073709551616) + 0) % 18446744073709551616) == 9223372036854775808) with h4 | h4
        · have h4p : (((((((a.natAbs : Int) / 18446744073709551616) * m % 18446744073709551616) + (((a.natAbs : Int) % 18446744073709551616) * m / 18446744073709551616) + 0) % 18446744073709551616) = 9223372036854775808)) := by first | (simpa using h4) | (have h4q := h4; simp at h4q; omega) | (have h4q := bx1 h4; simp at h4q; omega)
          rcases Bool.eq_false_or_eq_true (decide ((((a.natAbs : Int) % 18446744073709551616) * m % 18446744073709551616) > 0)) with h5 | h5
          · have h5p : (((((a.natAbs : Int) % 18446744073709551616) * m % 18446744073709551616) > 0)) := by first | (simpa using h5) | (have h5q := h5; simp at h5q; omega) | (have h5q := bx1 h5; simp at h5q; omega)
            refine aw_p 2045 (
              .a 2 3 <|
              .p (does_i ((((a.natAbs : Int) / 18446744073709551616) * m / 18446744073709551616) + (((((a.natAbs : Int) / 18446744073709551616) * m % 18446744073709551616) + (((a.natAbs : Int) % 18446744073709551616) * m / 18446744073709551616) + 0) / 18446744073709551616)) (wrap_u64 (by omega) (by omega)) .u64) <|
              .p (does_b false (h2)) <| .a 2 3 <| .p (does_b false (h3)) <| .a 3 3 <| .p (does_b true (h4)) <| .a 2 3 <| .p (does_b true (h5)) <| .a 6 3 <| .nil _ _) ?_
            refine aw_tr 4090 ?_
            refine aw_p 8181 (
              .a 3 3 <| .nil _ _) ?_
            refine aw_rt ?_
            refine then_ret ?_
            exact en_ret [.agg #[.int .i64 0, .int .u64 0], .int .i64 2] (show (.tuple #[.agg #[.int .i64 0, .int .u64 0], .int .i64 2] : Value) = (.tuple #[.agg #[.int .i64 (Sp.wh (Sp.tm (a * n))), .int .u64 (Sp.wl (Sp.tm (a * n)))], .int .i64 (Sp.tmE (a * n))]) from (congrArg (fun z : List Value => Value.tuple z.toArray) (lcons (congrArg (fun z : List Value => Value.agg z.toArray) (lcons (congrArg (Value.int .i64) (show 0 = (Sp.wh (Sp.tm (a * n))) from by (first | (rw [(Sp.tm_no (x := a * n) (by omega)).1]; decide) | (rw [(Sp.tm_no (x := a * n) (by omega)).2]) | (rw [(Sp.tm_yes (x := a * n) (by omega)).1]; congr 1; omega) | (rw [(Sp.tm_yes (x := a * n) (by omega)).2])))) (lcons (congrArg (Value.int .u64) (show 0 = (Sp.wl (Sp.tm (a * n))) from by (first | (rw [(Sp.tm_no (x := a * n) (by omega)).1]; decide) | (rw [(Sp.tm_no (x := a * n) (by omega)).2]) | (rw [(Sp.tm_yes (x := a * n) (by omega)).1]; congr 1; omega) | (rw [(Sp.tm_yes (x := a * n) (by omega)).2])))) rfl))) (lcons (congrArg (Value.int .i64) (show 2 = (Sp.tmE (a * n)) from by (first | (rw [(Sp.tm_no (x := a * n) (by omega)).1]; decide) | (rw [(Sp.tm_no (x := a * n) (by omega)).2]) | (rw [(Sp.tm_yes (x := a * n) (by omega)).1]; congr 1; omega) | (rw [(Sp.tm_yes (x := a * n) (by omega)).2])))) rfl))))
          · have h5p : ¬ (((((a.natAbs : Int) % 18446744073709551616) * m % 18446744073709551616) > 0)) := by first | (simpa using h5) | (have h5q := h5; simp at h5q; omega) | (have h5q := bx2 h5; simp at h5q; omega)
            refine aw_p 2045 (
              .a 2 3 <|
              .p (does_i ((((a.natAbs : Int) / 18446744073709551616) * m / 18446744073709551616) + (((((a.natAbs : Int) / 18446744073709551616) * m % 18446744073709551616) + (((a.natAbs : Int) % 18446744073709551616) * m / 18446744073709551616) + 0) / 18446744073709551616)) (wrap_u64 (by omega) (by omega)) .u64) <|
              .p (does_b false (h2)) <| .a 2 3 <| .p (does_b false (h3)) <| .a 3 3 <| .p (does_b true (h4)) <| .a 2 3 <| .p (does_b false (h5)) <| .a 2 3 <| .p (does_b ((decide (a < 0)) == (decide (n < 0))) (Bool.not_not _)) <| .a 3 3 <| .nil _ _) ?_
            refine aw_cd 4090 4091 ((decide (a < 0)) == (decide (n < 0))) (fun h6 => ?_) (fun h6 => ?_)
            · have h6p : ((((a < 0)) ↔ ((n < 0)))) := by first | (simpa using h6) | (have h6q := h6; simp at h6q; omega) | (have h6q := bx1 h6; simp at h6q; omega)
              refine aw_p 8181 (
                .a 3 3 <| .nil _ _) ?_
              refine aw_rt ?_
              refine then_ret ?_
              exact en_ret [.agg #[.int .i64 0, .int .u64 0], .int .i64 2] (show (.tuple #[.agg #[.int .i64 0, .int .u64 0], .int .i64 2] : Value) = (.tuple #[.agg #[.int .i64 (Sp.wh (Sp.tm (a * n))), .int .u64 (Sp.wl (Sp.tm (a * n)))], .int .i64 (Sp.tmE (a * n))]) from (congrArg (fun z : List Value => Value.tuple z.toArray) (lcons (congrArg (fun z : List Value => Value.agg z.toArray) (lcons (congrArg (Value.int .i64) (show 0 = (Sp.wh (Sp.tm (a * n))) from by (first | (rw [(Sp.tm_no (x := a * n) (by omega)).1]; decide) | (rw [(Sp.tm_no (x := a * n) (by omega)).2]) | (rw [(Sp.tm_yes (x := a * n) (by omega)).1]; congr 1; omega) | (rw [(Sp.tm_yes (x := a * n) (by omega)).2])))) (lcons (congrArg (Value.int .u64) (show 0 = (Sp.wl (Sp.tm (a * n))) from by (first | (rw [(Sp.tm_no (x := a * n) (by omega)).1]; decide) | (rw [(Sp.tm_no (x := a * n) (by omega)).2]) | (rw [(Sp.tm_yes (x := a * n) (by omega)).1]; congr 1; omega) | (rw [(Sp.tm_yes (x := a * n) (by omega)).2])))) rfl))) (lcons (congrArg (Value.int .i64) (show 2 = (Sp.tmE (a * n)) from by (first | (rw [(Sp.tm_no (x := a * n) (by omega)).1]; decide) | (rw [(Sp.tm_no (x := a * n) (by omega)).2]) | (rw [(Sp.tm_yes (x := a * n) (by omega)).1]; congr 1; omega) | (rw [(Sp.tm_yes (x := a * n) (by omega)).2])))) rfl))))
            · have h6p : ¬ ((((a < 0)) ↔ ((n < 0)))) := by first | (simpa using h6) | (have h6q := h6; simp at h6q; omega) | (have h6q := bx2 h6; simp at h6q; omega)
              refine aw_sk ?_
              refine then_normal ?_
              refine aw_p 2047 (
                .a 1 3 <|
                .p (does_i (Sp.wh ((a.natAbs : Int) / 18446744073709551616 * m * 18446744073709551616 + (a.natAbs : Int) % 18446744073709551616 * m)) ((show (IntKind.wrap .i64 (((((a.natAbs : Int) / 18446744073709551616) * m % 18446744073709551616) + (((a.natAbs : Int) % 18446744073709551616) * m / 18446744073709551616) + 0) % 18446744073709551616)) = (Sp.wh ((a.natAbs : Int) / 18446744073709551616 * m * 18446744073709551616 + (a.natAbs : Int) % 18446744073709551616 * m)) from (by rw [Sp.s64_any]; simp only [Sp.wh, Sp.s64]; omega))) .i64) <|
                .p (does_i (Sp.wl ((a.natAbs : Int) / 18446744073709551616 * m * 18446744073709551616 + (a.natAbs : Int) % 18446744073709551616 * m)) ((show (((a.natAbs : Int) % 18446744073709551616) * m % 18446744073709551616) = (Sp.wl ((a.natAbs : Int) / 18446744073709551616 * m * 18446744073709551616 + (a.natAbs : Int) % 18446744073709551616 * m)) from (by simp only [Sp.wl]; omega))) .u64) <|
                .a 3 3 <| .nil _ _) ?_
              refine aw_sq 4094 4095 ?_
              refine aw_p 8189 (
                .p (does_b true (not_f h6)) <| .nil _ _) ?_
              refine aw_tr 16378 ?_
              refine aw_p1 (
                .a 1 4 <| .p (does_c (wneg_ok ((a.natAbs : Int) / 18446744073709551616 * m * 18446744073709551616 + (a.natAbs : Int) % 18446744073709551616 * m))) <| .a 1 4 <| .nil _ _) ?_
              refine then_normal ?_
              refine aw_p 8191 (
                .a 3 4 <| .nil _ _) ?_
              refine aw_rt ?_
              exact en_ret [.agg #[.int .i64 (Sp.wh (-((a.natAbs : Int) / 18446744073709551616 * m * 18446744073709551616 + (a.natAbs : Int) % 18446744073709551616 * m))), .int .u64 (Sp.wl (-((a.natAbs : Int) / 18446744073709551616 * m * 18446744073709551616 + (a.natAbs : Int) % 18446744073709551616 * m)))], .int .i64 0] (show (.tuple #[.agg #[.int .i64 (Sp.wh (-((a.natAbs : Int) / 18446744073709551616 * m * 18446744073709551616 + (a.natAbs : Int) % 18446744073709551616 * m))), .int .u64 (Sp.wl (-((a.natAbs : Int) / 18446744073709551616 * m * 18446744073709551616 + (a.natAbs : Int) % 18446744073709551616 * m)))], .int .i64 0] : Value) = (.tuple #[.agg #[.int .i64 (Sp.wh (Sp.tm (a * n))), .int .u64 (Sp.wl (Sp.tm (a * n)))], .int .i64 (Sp.tmE (a * n))]) from (congrArg (fun z : List Value => Value.tuple z.toArray) (lcons (congrArg (fun z : List Value => Value.agg z.toArray) (lcons (congrArg (Value.int .i64) (show (Sp.wh (-((a.natAbs : Int) / 18446744073709551616 * m * 18446744073709551616 + (a.natAbs : Int) % 18446744073709551616 * m))) = (Sp.wh (Sp.tm (a * n))) from by (first | (rw [(Sp.tm_no (x := a * n) (by omega)).1]; decide) | (rw [(Sp.tm_no (x := a * n) (by omega)).2]) | (rw [(Sp.tm_yes (x := a * n) (by omega)).1]; congr 1; omega) | (rw [(Sp.tm_yes (x := a * n) (by omega)).2])))) (lcons (congrArg (Value.int .u64) (show (Sp.wl (-((a.natAbs : Int) / 18446744073709551616 * m * 18446744073709551616 + (a.natAbs : Int) % 18446744073709551616 * m))) = (Sp.wl (Sp.tm (a * n))) from by (first | (rw [(Sp.tm_no (x := a * n) (by omega)).1]; decide) | (rw [(Sp.tm_no (x := a * n) (by omega)).2]) | (rw [(Sp.tm_yes (x := a * n) (by omega)).1]; congr 1; omega) | (rw [(Sp.tm_yes (x := a * n) (by omega)).2])))) rfl))) (lcons (congrArg (Value.int .i64) (show 0 = (Sp.tmE (a * n)) from by (first | (rw [(Sp.tm_no (x := a * n) (by omega)).1]; decide) | (rw [(Sp.tm_no (x := a * n) (by omega)).2]) | (rw [(Sp.tm_yes (x := a * n) (by omega)).1]; congr 1; omega) | (rw [(Sp.tm_yes (x := a * n) (by omega)).2])))) rfl))))
        · have h4p : ¬ (((((((a.natAbs : Int) / 18446744073709551616) * m % 18446744073709551616) + (((a.natAbs : Int) % 18446744073709551616) * m / 18446744073709551616) + 0) % 18446744073709551616) = 9223372036854775808)) := by first | (simpa using h4) | (have h4q := h4; simp at h4q; omega) | (have h4q := bx2 h4; simp at h4q; omega)
          refine aw_p 2045 (
            .a 2 3 <|
            .p (does_i ((((a.natAbs : Int) / 18446744073709551616) * m / 18446744073709551616) + (((((a.natAbs : Int) / 18446744073709551616) * m % 18446744073709551616) + (((a.natAbs : Int) % 18446744073709551616) * m / 18446744073709551616) + 0) / 18446744073709551616)) (wrap_u64 (by omega) (by omega)) .u64) <|
            .p (does_b false (h2)) <| .a 2 3 <| .p (does_b false (h3)) <| .a 3 3 <| .p (does_b false (h4)) <| .a 9 3 <| .nil _ _) ?_
          refine aw_fl 4091 ?_
          refine aw_sk ?_
          refine then_normal ?_
          refine aw_p 2047 (
            .a 1 3 <|
            .p (does_i (Sp.wh ((a.natAbs : Int) / 18446744073709551616 * m * 18446744073709551616 + (a.natAbs : Int) % 18446744073709551616 * m)) ((show (IntKind.wrap .i64 (((((a.natAbs : Int) / 18446744073709551616) * m % 18446744073709551616) + (((a.natAbs : Int) % 18446744073709551616) * m / 18446744073709551616) + 0) % 18446744073709551616)) = (Sp.wh ((a.natAbs : Int) / 18446744073709551616 * m * 18446744073709551616 + (a.natAbs : Int) % 18446744073709551616 * m)) from (by rw [Sp.s64_any]; simp only [Sp.wh, Sp.s64]; omega))) .i64) <|
            .p (does_i (Sp.wl ((a.natAbs : Int) / 18446744073709551616 * m * 18446744073709551616 + (a.natAbs : Int) % 18446744073709551616 * m)) ((show (((a.natAbs : Int) % 18446744073709551616) * m % 18446744073709551616) = (Sp.wl ((a.natAbs : Int) / 18446744073709551616 * m * 18446744073709551616 + (a.natAbs : Int) % 18446744073709551616 * m)) from (by simp only [Sp.wl]; omega))) .u64) <|
            .a 3 3 <| .nil _ _) ?_
          refine aw_sq 4094 4095 ?_
          refine aw_p 8189 (
            .a 1 4 <| .nil _ _) ?_
          refine aw_cd 16378 16379 (!((decide (a < 0)) == (decide (n < 0)))) (fun h7 => ?_) (fun h7 => ?_)
          · have h7p : (¬ ((((a < 0)) ↔ ((n < 0))))) := by first | (simpa using h7) | (have h7q := h7; simp at h7q; omega) | (have h7q := bx3 h7; simp at h7q; omega)
            refine aw_p1 (
              .a 1 4 <| .p (does_c (wneg_ok ((a.natAbs : Int) / 18446744073709551616 * m * 18446744073709551616 + (a.natAbs : Int) % 18446744073709551616 * m))) <| .a 1 4 <| .nil _ _) ?_
            refine then_normal ?_
            refine aw_p 8191 (
              .a 3 4 <| .nil _ _) ?_
            refine aw_rt ?_
            exact en_ret [.agg #[.int .i64 (Sp.wh (-((a.natAbs : Int) / 18446744073709551616 * m * 18446744073709551616 + (a.natAbs : Int) % 18446744073709551616 * m))), .int .u64 (Sp.wl (-((a.natAbs : Int) / 18446744073709551616 * m * 18446744073709551616 + (a.natAbs : Int) % 18446744073709551616 * m)))], .int .i64 0] (show (.tuple #[.agg #[.int .i64 (Sp.wh (-((a.natAbs : Int) / 18446744073709551616 * m * 18446744073709551616 + (a.natAbs : Int) % 18446744073709551616 * m))), .int .u64 (Sp.wl (-((a.natAbs : Int) / 18446744073709551616 * m * 18446744073709551616 + (a.natAbs : Int) % 18446744073709551616 * m)))], .int .i64 0] : Value) = (.tuple #[.agg #[.int .i64 (Sp.wh (Sp.tm (a * n))), .int .u64 (Sp.wl (Sp.tm (a * n)))], .int .i64 (Sp.tmE (a * n))]) from (congrArg (fun z : List Value => Value.tuple z.toArray) (lcons (congrArg (fun z : List Value => Value.agg z.toArray) (lcons (congrArg (Value.int .i64) (show (Sp.wh (-((a.natAbs : Int) / 18446744073709551616 * m * 18446744073709551616 + (a.natAbs : Int) % 18446744073709551616 * m))) = (Sp.wh (Sp.tm (a * n))) from by (first | (rw [(Sp.tm_no (x := a * n) (by omega)).1]; decide) | (rw [(Sp.tm_no (x := a * n) (by omega)).2]) | (rw [(Sp.tm_yes (x := a * n) (by omega)).1]; congr 1; omega) | (rw [(Sp.tm_yes (x := a * n) (by omega)).2])))) (lcons (congrArg (Value.int .u64) (show (Sp.wl (-((a.natAbs : Int) / 18446744073709551616 * m * 18446744073709551616 + (a.natAbs : Int) % 18446744073709551616 * m))) = (Sp.wl (Sp.tm (a * n))) from by (first | (rw [(Sp.tm_no (x := a * n) (by omega)).1]; decide) | (rw [(Sp.tm_no (x := a * n) (by omega)).2]) | (rw [(Sp.tm_yes (x := a * n) (by omega)).1]; congr 1; omega) | (rw [(Sp.tm_yes (x := a * n) (by omega)).2])))) rfl))) (lcons (congrArg (Value.int .i64) (show 0 = (Sp.tmE (a * n)) from by (first | (rw [(Sp.tm_no (x := a * n) (by omega)).1]; decide) | (rw [(Sp.tm_no (x := a * n) (by omega)).2]) | (rw [(Sp.tm_yes (x := a * n) (by omega)).1]; congr 1; omega) | (rw [(Sp.tm_yes (x := a * n) (by omega)).2])))) rfl))))
          · have h7p : ¬ (¬ ((((a < 0)) ↔ ((n < 0))))) := by first | (simpa using h7) | (have h7q := h7; simp at h7q; omega) | (have h7q := bx4 h7; simp at h7q; omega)
            refine aw_sk ?_
            refine then_normal ?_
            refine aw_p 8191 (
              .a 3 4 <| .nil _ _) ?_
            refine aw_rt ?_
            exact en_ret [.agg #[.int .i64 (Sp.wh ((a.natAbs : Int) / 18446744073709551616 * m * 18446744073709551616 + (a.natAbs : Int) % 18446744073709551616 * m)), .int .u64 (Sp.wl ((a.natAbs : Int) / 18446744073709551616 * m * 18446744073709551616 + (a.natAbs : Int) % 18446744073709551616 * m))], .int .i64 0] (show (.tuple #[.agg #[.int .i64 (Sp.wh ((a.natAbs : Int) / 18446744073709551616 * m * 18446744073709551616 + (a.natAbs : Int) % 18446744073709551616 * m)), .int .u64 (Sp.wl ((a.natAbs : Int) / 18446744073709551616 * m * 18446744073709551616 + (a.natAbs : Int) % 18446744073709551616 * m))], .int .i64 0] : Value) = (.tuple #[.agg #[.int .i64 (Sp.wh (Sp.tm (a * n))), .int .u64 (Sp.wl (Sp.tm (a * n)))], .int .i64 (Sp.tmE (a * n))]) from (congrArg (fun z : List Value => Value.tuple z.toArray) (lcons (congrArg (fun z : List Value => Value.agg z.toArray) (lcons (congrArg (Value.int .i64) (show (Sp.wh ((a.natAbs : Int) / 18446744073709551616 * m * 18446744073709551616 + (a.natAbs : Int) % 18446744073709551616 * m)) = (Sp.wh (Sp.tm (a * n))) from by (first | (rw [(Sp.tm_no (x := a * n) (by omega)).1]; decide) | (rw [(Sp.tm_no (x := a * n) (by omega)).2]) | (rw [(Sp.tm_yes (x := a * n) (by omega)).1]; congr 1; omega) | (rw [(Sp.tm_yes (x := a * n) (by omega)).2])))) (lcons (congrArg (Value.int .u64) (show (Sp.wl ((a.natAbs : Int) / 18446744073709551616 * m * 18446744073709551616 + (a.natAbs : Int) % 18446744073709551616 * m)) = (Sp.wl (Sp.tm (a * n))) from by (first | (rw [(Sp.tm_no (x := a * n) (by omega)).1]; decide) | (rw [(Sp.tm_no (x := a * n) (by omega)).2]) | (rw [(Sp.tm_yes (x := a * n) (by omega)).1]; congr 1; omega) | (rw [(Sp.tm_yes (x := a * n) (by omega)).2])))) rfl))) (lcons (congrArg (Value.int .i64) (show 0 = (Sp.tmE (a * n)) from by (first | (rw [(Sp.tm_no (x := a * n) (by omega)).1]; decide) | (rw [(Sp.tm_no (x := a * n) (by omega)).2]) | (rw [(Sp.tm_yes (x := a * n) (by omega)).1]; congr 1; omega) | (rw [(Sp.tm_yes (x := a * n) (by omega)).2])))) rfl))))
  · have h1p : ¬ ((n < 0)) := by first | (simpa using h1) | (have h1q := h1; simp at h1q; omega) | (have h1q := bx2 h1; simp at h1q; omega)
    refine aw_sk ?_
    refine then_normal ?_
    refine aw_gen (fun z : Int => (fun (m : Int) => mkSt 0 [(4, .pointer (some ⟨2, 0, none⟩)), (5, .int .i64 0), (6, .bool (!((decide (a < 0)) == (decide (n < 0))))), (7, .int .u64 ((a.natAbs : Int) / 18446744073709551616)), (8, .int .u64 ((a.natAbs : Int) % 18446744073709551616)), (9, .int .u64 m)] [(2, ⟨[.int .i64 0, .int .u64 0], 68, true, 2⟩)]) z) (fun z : Int => (fun (m : Int) => (m = (n.natAbs : Int))) z) ((n % 18446744073709551616)) (show ((n % 18446744073709551616) = (n.natAbs : Int)) from by omega) [(4, .pointer (some ⟨2, 0, none⟩)), (5, .int .i64 0), (6, .bool (!((decide (a < 0)) == (decide (n < 0))))), (7, .int .u64 ((a.natAbs : Int) / 18446744073709551616)), (8, .int .u64 ((a.natAbs : Int) % 18446744073709551616)), (9, .int .u64 (n % 18446744073709551616))] [(2, ⟨[.int .i64 0, .int .u64 0], 68, true, 2⟩)] (fun z hz => ?_)
    obtain ⟨m, hv⟩ : ∃ y, y = z := ⟨z, rfl⟩; subst hv
    have hz' : (m = (n.natAbs : Int)) := hz
    have hm := hz'
    clear hz
    obtain ⟨ph0, ph1, pl0, pl1, pa, pb⟩ := Sp.times_parts zla zua zln zun hm
    show AW _ _ _ (mkSt 0 [(4, .pointer (some ⟨2, 0, none⟩)), (5, .int .i64 0), (6, .bool (!((decide (a < 0)) == (decide (n < 0))))), (7, .int .u64 ((a.natAbs : Int) / 18446744073709551616)), (8, .int .u64 ((a.natAbs : Int) % 18446744073709551616)), (9, .int .u64 m)] [(2, ⟨[.int .i64 0, .int .u64 0], 68, true, 2⟩)]) _
    refine aw_p 127 (
      .a 2 3 <| .p (does_c (mul64_ok ((a.natAbs : Int) / 18446744073709551616) m (by omega) (by omega) (by omega) (by omega))) <| .a 5 3 <| .nil _ _) ?_
    refine aw_p 255 (
      .a 2 3 <| .p (does_c (mul64_ok ((a.natAbs : Int) % 18446744073709551616) m (by omega) (by omega) (by omega) (by omega))) <| .a 5 3 <| .nil _ _) ?_
    refine aw_p 511 (
      .a 2 3 <| .p (does_x (run_add64 Tryd.func69 (by kernel_rfl) (by kernel_rfl) (by kernel_rfl) (by kernel_rfl) (((a.natAbs : Int) / 18446744073709551616) * m % 18446744073709551616) (((a.natAbs : Int) % 18446744073709551616) * m / 18446744073709551616) 0 (by omega) (by omega) (by omega) (by omega))) <|
      .a 5 3 <| .nil _ _) ?_
    refine aw_sq 1022 1023 ?_
    rcases Bool.eq_false_or_eq_true (decide (((((a.natAbs : Int) / 18446744073709551616) * m / 18446744073709551616) + (((((a.natAbs : Int) / 18446744073709551616) * m % 18446744073709551616) + (((a.natAbs : Int) % 18446744073709551616) * m / 18446744073709551616) + 0) / 18446744073709551616)) > 0)) with h8 | h8
    · have h8p : ((((((a.natAbs : Int) / 18446744073709551616) * m / 18446744073709551616) + (((((a.natAbs : Int) / 18446744073709551616) * m % 18446744073709551616) + (((a.natAbs : Int) % 18446744073709551616) * m / 18446744073709551616) + 0) / 18446744073709551616)) > 0)) := by first | (simpa using h8) | (have h8q := h8; simp at h8q; omega) | (have h8q := bx1 h8; simp at h8q; omega)
      refine aw_p 2045 (
        .a 2 3 <|
        .p (does_i ((((a.natAbs : Int) / 18446744073709551616) * m / 18446744073709551616) + (((((a.natAbs : Int) / 18446744073709551616) * m % 18446744073709551616) + (((a.natAbs : Int) % 18446744073709551616) * m / 18446744073709551616) + 0) / 18446744073709551616)) (wrap_u64 (by omega) (by omega)) .u64) <|
        .p (does_b true (h8)) <| .a 16 3 <| .nil _ _) ?_
      refine aw_tr 4090 ?_
      refine aw_p 8181 (
        .a 3 3 <| .nil _ _) ?_
      refine aw_rt ?_
      refine then_ret ?_
      exact en_ret [.agg #[.int .i64 0, .int .u64 0], .int .i64 2] (show (.tuple #[.agg #[.int .i64 0, .int .u64 0], .int .i64 2] : Value) = (.tuple #[.agg #[.int .i64 (Sp.wh (Sp.tm (a * n))), .int .u64 (Sp.wl (Sp.tm (a * n)))], .int .i64 (Sp.tmE (a * n))]) from (congrArg (fun z : List Value => Value.tuple z.toArray) (lcons (congrArg (fun z : List Value => Value.agg z.toArray) (lcons (congrArg (Value.int .i64) (show 0 = (Sp.wh (Sp.tm (a * n))) from by (first | (rw [(Sp.tm_no (x := a * n) (by omega)).1]; decide) | (rw [(Sp.tm_no (x := a * n) (by omega)).2]) | (rw [(Sp.tm_yes (x := a * n) (by omega)).1]; congr 1; omega) | (rw [(Sp.tm_yes (x := a * n) (by omega)).2])))) (lcons (congrArg (Value.int .u64) (show 0 = (Sp.wl (Sp.tm (a * n))) from by (first | (rw [(Sp.tm_no (x := a * n) (by omega)).1]; decide) | (rw [(Sp.tm_no (x := a * n) (by omega)).2]) | (rw [(Sp.tm_yes (x := a * n) (by omega)).1]; congr 1; omega) | (rw [(Sp.tm_yes (x := a * n) (by omega)).2])))) rfl))) (lcons (congrArg (Value.int .i64) (show 2 = (Sp.tmE (a * n)) from by (first | (rw [(Sp.tm_no (x := a * n) (by omega)).1]; decide) | (rw [(Sp.tm_no (x := a * n) (by omega)).2]) | (rw [(Sp.tm_yes (x := a * n) (by omega)).1]; congr 1; omega) | (rw [(Sp.tm_yes (x := a * n) (by omega)).2])))) rfl))))
    · have h8p : ¬ ((((((a.natAbs : Int) / 18446744073709551616) * m / 18446744073709551616) + (((((a.natAbs : Int) / 18446744073709551616) * m % 18446744073709551616) + (((a.natAbs : Int) % 18446744073709551616) * m / 18446744073709551616) + 0) / 18446744073709551616)) > 0)) := by first | (simpa using h8) | (have h8q := h8; simp at h8q; omega) | (have h8q := bx2 h8; simp at h8q; omega)
      rcases Bool.eq_false_or_eq_true (decide ((((((a.natAbs : Int) / 18446744073709551616) * m % 18446744073709551616) + (((a.natAbs : Int) % 18446744073709551616) * m / 18446744073709551616) + 0) % 18446744073709551616) > 9223372036854775808)) with h9 | h9
      · have h9p : (((((((a.natAbs : Int) / 18446744073709551616) * m % 18446744073709551616) + (((a.natAbs : Int) % 18446744073709551616) * m / 18446744073709551616) + 0) % 18446744073709551616) > 9223372036854775808)) := by first | (simpa using h9) | (have h9q := h9; simp at h9q; omega) | (have h9q := bx1 h9; simp at h9q; omega)
        refine aw_p 2045 (
          .a 2 3 <|
          .p (does_i ((((a.natAbs : Int) / 18446744073709551616) * m / 18446744073709551616) + (((((a.natAbs : Int) / 18446744073709551616) * m % 18446744073709551616) + (((a.natAbs : Int) % 18446744073709551616) * m / 18446744073709551616) + 0) / 18446744073709551616)) (wrap_u64 (by omega) (by omega)) .u64) <|
          .p (does_b false (h8)) <| .a 2 3 <| .p (does_b true (h9)) <| .a 13 3 <| .nil _ _) ?_
        refine aw_tr 4090 ?_
        refine aw_p 8181 (
          .a 3 3 <| .nil _ _) ?_
        refine aw_rt ?_
        refine then_ret ?_
        exact en_ret [.agg #[.int .i64 0, .int .u64 0], .int .i64 2] (show (.tuple #[.agg #[.int .i64 0, .int .u64 0], .int .i64 2] : Value) = (.tuple #[.agg #[.int .i64 (Sp.wh (Sp.tm (a * n))), .int .u64 (Sp.wl (Sp.tm (a * n)))], .int .i64 (Sp.tmE (a * n))]) from (congrArg (fun z : List Value => Value.tuple z.toArray) (lcons (congrArg (fun z : List Value => Value.agg z.toArray) (lcons (congrArg (Value.int .i64) (show 0 = (Sp.wh (Sp.tm (a * n))) from by (first | (rw [(Sp.tm_no (x := a * n) (by omega)).1]; decide) | (rw [(Sp.tm_no (x := a * n) (by omega)).2]) | (rw [(Sp.tm_yes (x := a * n) (by omega)).1]; congr 1; omega) | (rw [(Sp.tm_yes (x := a * n) (by omega)).2])))) (lcons (congrArg (Value.int .u64) (show 0 = (Sp.wl (Sp.tm (a * n))) from by (first | (rw [(Sp.tm_no (x := a * n) (by omega)).1]; decide) | (rw [(Sp.tm_no (x := a * n) (by omega)).2]) | (rw [(Sp.tm_yes (x := a * n) (by omega)).1]; congr 1; omega) | (rw [(Sp.tm_yes (x := a * n) (by omega)).2])))) rfl))) (lcons (congrArg (Value.int .i64) (show 2 = (Sp.tmE (a * n)) from by (first | (rw [(Sp.tm_no (x := a * n) (by omega)).1]; decide) | (rw [(Sp.tm_no (x := a * n) (by omega)).2]) | (rw [(Sp.tm_yes (x := a * n) (by omega)).1]; congr 1; omega) | (rw [(Sp.tm_yes (x := a * n) (by omega)).2])))) rfl))))
      · have h9p : ¬ (((((((a.natAbs : Int) / 18446744073709551616) * m % 18446744073709551616) + (((a.natAbs : Int) % 18446744073709551616) * m / 18446744073709551616) + 0) % 18446744073709551616) > 9223372036854775808)) := by first | (simpa using h9) | (have h9q := h9; simp at h9q; omega) | (have h9q := bx2 h9; simp at h9q; omega)
        rcases Bool.eq_false_or_eq_true ((((((a.natAbs : Int) / 18446744073709551616) * m % 18446744073709551616) + (((a.natAbs : Int) % 18446744073709551616) * m / 18446744073709551616) + 0) % 18446744073709551616) == 9223372036854775808) with h10 | h10
        · have h10p : (((((((a.natAbs : Int) / 18446744073709551616) * m % 18446744073709551616) + (((a.natAbs : Int) % 18446744073709551616) * m / 18446744073709551616) + 0) % 18446744073709551616) = 9223372036854775808)) := by first | (simpa using h10) | (have h10q := h10; simp at h10q; omega) | (have h10q := bx1 h10; simp at h10q; omega)
          rcases Bool.eq_false_or_eq_true (decide ((((a.natAbs : Int) % 18446744073709551616) * m % 18446744073709551616) > 0)) with h11 | h11
          · have h11p : (((((a.natAbs : Int) % 18446744073709551616) * m % 18446744073709551616) > 0)) := by first | (simpa using h11) | (have h11q := h11; simp at h11q; omega) | (have h11q := bx1 h11; simp at h11q; omega)
            refine aw_p 2045 (
              .a 2 3 <|
              .p (does_i ((((a.natAbs : Int) / 18446744073709551616) * m / 18446744073709551616) + (((((a.natAbs : Int) / 18446744073709551616) * m % 18446744073709551616) + (((a.natAbs : Int) % 18446744073709551616) * m / 18446744073709551616) + 0) / 18446744073709551616)) (wrap_u64 (by omega) (by omega)) .u64) <|
              .p (does_b false (h8)) <| .a 2 3 <| .p (does_b false (h9)) <| .a 3 3 <| .p (does_b true (h10)) <| .a 2 3 <| .p (does_b true (h11)) <| .a 6 3 <| .nil _ _) ?_
            refine aw_tr 4090 ?_
            refine aw_p 8181 (
              .a 3 3 <| .nil _ _) ?_
            refine aw_rt ?_
            refine then_ret ?_
            exact en_ret [.agg #[.int .i64 0, .int .u64 0], .int .i64 2] (show (.tuple #[.agg #[.int .i64 0, .int .u64 0], .int .i64 2] : Value) = (.tuple #[.agg #[.int .i64 (Sp.wh (Sp.tm (a * n))), .int .u64 (Sp.wl (Sp.tm (a * n)))], .int .i64 (Sp.tmE (a * n))]) from (congrArg (fun z : List Value => Value.tuple z.toArray) (lcons (congrArg (fun z : List Value => Value.agg z.toArray) (lcons (congrArg (Value.int .i64) (show 0 = (Sp.wh (Sp.tm (a * n))) from by (first | (rw [(Sp.tm_no (x := a * n) (by omega)).1]; decide) | (rw [(Sp.tm_no (x := a * n) (by omega)).2]) | (rw [(Sp.tm_yes (x := a * n) (by omega)).1]; congr 1; omega) | (rw [(Sp.tm_yes (x := a * n) (by omega)).2])))) (lcons (congrArg (Value.int .u64) (show 0 = (Sp.wl (Sp.tm (a * n))) from by (first | (rw [(Sp.tm_no (x := a * n) (by omega)).1]; decide) | (rw [(Sp.tm_no (x := a * n) (by omega)).2]) | (rw [(Sp.tm_yes (x := a * n) (by omega)).1]; congr 1; omega) | (rw [(Sp.tm_yes (x := a * n) (by omega)).2])))) rfl))) (lcons (congrArg (Value.int .i64) (show 2 = (Sp.tmE (a * n)) from by (first | (rw [(Sp.tm_no (x := a * n) (by omega)).1]; decide) | (rw [(Sp.tm_no (x := a * n) (by omega)).2]) | (rw [(Sp.tm_yes (x := a * n) (by omega)).1]; congr 1; omega) | (rw [(Sp.tm_yes (x := a * n) (by omega)).2])))) rfl))))
          · have h11p : ¬ (((((a.natAbs : Int) % 18446744073709551616) * m % 18446744073709551616) > 0)) := by first | (simpa using h11) | (have h11q := h11; simp at h11q; omega) | (have h11q := bx2 h11; simp at h11q; omega)
            refine aw_p 2045 (
              .a 2 3 <|
              .p (does_i ((((a.natAbs : Int) / 18446744073709551616) * m / 18446744073709551616) + (((((a.natAbs : Int) / 18446744073709551616) * m % 18446744073709551616) + (((a.natAbs : Int) % 18446744073709551616) * m / 18446744073709551616) + 0) / 18446744073709551616)) (wrap_u64 (by omega) (by omega)) .u64) <|
              .p (does_b false (h8)) <| .a 2 3 <| .p (does_b false (h9)) <| .a 3 3 <| .p (does_b true (h10)) <| .a 2 3 <| .p (does_b false (h11)) <| .a 2 3 <| .p (does_b ((decide (a < 0)) == (decide (n < 0))) (Bool.not_not _)) <| .a 3 3 <| .nil _ _) ?_
            refine aw_cd 4090 4091 ((decide (a < 0)) == (decide (n < 0))) (fun h12 => ?_) (fun h12 => ?_)
            · have h12p : ((((a < 0)) ↔ ((n < 0)))) := by first | (simpa using h12) | (have h12q := h12; simp at h12q; omega) | (have h12q := bx1 h12; simp at h12q; omega)
              refine aw_p 8181 (
                .a 3 3 <| .nil _ _) ?_
              refine aw_rt ?_
              refine then_ret ?_
              exact en_ret [.agg #[.int .i64 0, .int .u64 0], .int .i64 2] (show (.tuple #[.agg #[.int .i64 0, .int .u64 0], .int .i64 2] : Value) = (.tuple #[.agg #[.int .i64 (Sp.wh (Sp.tm (a * n))), .int .u64 (Sp.wl (Sp.tm (a * n)))], .int .i64 (Sp.tmE (a * n))]) from (congrArg (fun z : List Value => Value.tuple z.toArray) (lcons (congrArg (fun z : List Value => Value.agg z.toArray) (lcons (congrArg (Value.int .i64) (show 0 = (Sp.wh (Sp.tm (a * n))) from by (first | (rw [(Sp.tm_no (x := a * n) (by omega)).1]; decide) | (rw [(Sp.tm_no (x := a * n) (by omega)).2]) | (rw [(Sp.tm_yes (x := a * n) (by omega)).1]; congr 1; omega) | (rw [(Sp.tm_yes (x := a * n) (by omega)).2])))) (lcons (congrArg (Value.int .u64) (show 0 = (Sp.wl (Sp.tm (a * n))) from by (first | (rw [(Sp.tm_no (x := a * n) (by omega)).1]; decide) | (rw [(Sp.tm_no (x := a * n) (by omega)).2]) | (rw [(Sp.tm_yes (x := a * n) (by omega)).1]; congr 1; omega) | (rw [(Sp.tm_yes (x := a * n) (by omega)).2])))) rfl))) (lcons (congrArg (Value.int .i64) (show 2 = (Sp.tmE (a * n)) from by (first | (rw [(Sp.tm_no (x := a * n) (by omega)).1]; decide) | (rw [(Sp.tm_no (x := a * n) (by omega)).2]) | (rw [(Sp.tm_yes (x := a * n) (by omega)).1]; congr 1; omega) | (rw [(Sp.tm_yes (x := a * n) (by omega)).2])))) rfl))))
            · have h12p : ¬ ((((a < 0)) ↔ ((n < 0)))) := by first | (simpa using h12) | (have h12q := h12; simp at h12q; omega) | (have h12q := bx2 h12; simp at h12q; omega)
              refine aw_sk ?_
              refine then_normal ?_
              refine aw_p 2047 (
                .a 1 3 <|
                .p (does_i (Sp.wh ((a.natAbs : Int) / 18446744073709551616 * m * 18446744073709551616 + (a.natAbs : Int) % 18446744073709551616 * m)) ((show (IntKind.wrap .i64 (((((a.natAbs : Int) / 18446744073709551616) * m % 18446744073709551616) + (((a.natAbs : Int) % 18446744073709551616) * m / 18446744073709551616) + 0) % 18446744073709551616)) = (Sp.wh ((a.natAbs : Int) / 18446744073709551616 * m * 18446744073709551616 + (a.natAbs : Int) % 18446744073709551616 * m)) from (by rw [Sp.s64_any]; simp only [Sp.wh, Sp.s64]; omega))) .i64) <|
                .p (does_i (Sp.wl ((a.natAbs : Int) / 18446744073709551616 * m * 18446744073709551616 + (a.natAbs : Int) % 18446744073709551616 * m)) ((show (((a.natAbs : Int) % 18446744073709551616) * m % 18446744073709551616) = (Sp.wl ((a.natAbs : Int) / 18446744073709551616 * m * 18446744073709551616 + (a.natAbs : Int) % 18446744073709551616 * m)) from (by simp only [Sp.wl]; omega))) .u64) <|
                .a 3 3 <| .nil _ _) ?_
              refine aw_sq 4094 4095 ?_
              refine aw_p 8189 (
                .p (does_b true (not_f h12)) <| .nil _ _) ?_
              refine aw_tr 16378 ?_
              refine aw_p1 (
                .a 1 4 <| .p (does_c (wneg_ok ((a.natAbs : Int) / 18446744073709551616 * m * 18446744073709551616 + (a.natAbs : Int) % 18446744073709551616 * m))) <| .a 1 4 <| .nil _ _) ?_
              refine then_normal ?_
              refine aw_p 8191 (
                .a 3 4 <| .nil _ _) ?_
              refine aw_rt ?_
              exact en_ret [.agg #[.int .i64 (Sp.wh (-((a.natAbs : Int) / 18446744073709551616 * m * 18446744073709551616 + (a.natAbs : Int) % 18446744073709551616 * m))), .int .u64 (Sp.wl (-((a.natAbs : Int) / 18446744073709551616 * m * 18446744073709551616 + (a.natAbs : Int) % 18446744073709551616 * m)))], .int .i64 0] (show (.tuple #[.agg #[.int .i64 (Sp.wh (-((a.natAbs : Int) / 18446744073709551616 * m * 18446744073709551616 + (a.natAbs : Int) % 18446744073709551616 * m))), .int .u64 (Sp.wl (-((a.natAbs : Int) / 18446744073709551616 * m * 18446744073709551616 + (a.natAbs : Int) % 18446744073709551616 * m)))], .int .i64 0] : Value) = (.tuple #[.agg #[.int .i64 (Sp.wh (Sp.tm (a * n))), .int .u64 (Sp.wl (Sp.tm (a * n)))], .int .i64 (Sp.tmE (a * n))]) from (congrArg (fun z : List Value => Value.tuple z.toArray) (lcons (congrArg (fun z : List Value => Value.agg z.toArray) (lcons (congrArg (Value.int .i64) (show (Sp.wh (-((a.natAbs : Int) / 18446744073709551616 * m * 18446744073709551616 + (a.natAbs : Int) % 18446744073709551616 * m))) = (Sp.wh (Sp.tm (a * n))) from by (first | (rw [(Sp.tm_no (x := a * n) (by omega)).1]; decide) | (rw [(Sp.tm_no (x := a * n) (by omega)).2]) | (rw [(Sp.tm_yes (x := a * n) (by omega)).1]; congr 1; omega) | (rw [(Sp.tm_yes (x := a * n) (by omega)).2])))) (lcons (congrArg (Value.int .u64) (show (Sp.wl (-((a.natAbs : Int) / 18446744073709551616 * m * 18446744073709551616 + (a.natAbs : Int) % 18446744073709551616 * m))) = (Sp.wl (Sp.tm (a * n))) from by (first | (rw [(Sp.tm_no (x := a * n) (by omega)).1]; decide) | (rw [(Sp.tm_no (x := a * n) (by omega)).2]) | (rw [(Sp.tm_yes (x := a * n) (by omega)).1]; congr 1; omega) | (rw [(Sp.tm_yes (x := a * n) (by omega)).2])))) rfl))) (lcons (congrArg (Value.int .i64) (show 0 = (Sp.tmE (a * n)) from by (first | (rw [(Sp.tm_no (x := a * n) (by omega)).1]; decide) | (rw [(Sp.tm_no (x := a * n) (by omega)).2]) | (rw [(Sp.tm_yes (x := a * n) (by omega)).1]; congr 1; omega) | (rw [(Sp.tm_yes (x := a * n) (by omega)).2])))) rfl))))
        · have h10p : ¬ (((((((a.natAbs : Int) / 18446744073709551616) * m % 18446744073709551616) + (((a.natAbs : Int) % 18446744073709551616) * m / 18446744073709551616) + 0) % 18446744073709551616) = 9223372036854775808)) := by first | (simpa using h10) | (have h10q := h10; simp at h10q; omega) | (have h10q := bx2 h10; simp at h10q; omega)
          refine aw_p 2045 (
            .a 2 3 <|
            .p (does_i ((((a.natAbs : Int) / 18446744073709551616) * m / 18446744073709551616) + (((((a.natAbs : Int) / 18446744073709551616) * m % 18446744073709551616) + (((a.natAbs : Int) % 18446744073709551616) * m / 18446744073709551616) + 0) / 18446744073709551616)) (wrap_u64 (by omega) (by omega)) .u64) <|
            .p (does_b false (h8)) <| .a 2 3 <| .p (does_b false (h9)) <| .a 3 3 <| .p (does_b false (h10)) <| .a 9 3 <| .nil _ _) ?_
          refine aw_fl 4091 ?_
          refine aw_sk ?_
          refine then_normal ?_
          refine aw_p 2047 (
            .a 1 3 <|
            .p (does_i (Sp.wh ((a.natAbs : Int) / 18446744073709551616 * m * 18446744073709551616 + (a.natAbs : Int) % 18446744073709551616 * m)) ((show (IntKind.wrap .i64 (((((a.natAbs : Int) / 18446744073709551616) * m % 18446744073709551616) + (((a.natAbs : Int) % 18446744073709551616) * m / 18446744073709551616) + 0) % 18446744073709551616)) = (Sp.wh ((a.natAbs : Int) / 18446744073709551616 * m * 18446744073709551616 + (a.natAbs : Int) % 18446744073709551616 * m)) from (by rw [Sp.s64_any]; simp only [Sp.wh, Sp.s64]; omega))) .i64) <|
            .p (does_i (Sp.wl ((a.natAbs : Int) / 18446744073709551616 * m * 18446744073709551616 + (a.natAbs : Int) % 18446744073709551616 * m)) ((show (((a.natAbs : Int) % 18446744073709551616) * m % 18446744073709551616) = (Sp.wl ((a.natAbs : Int) / 18446744073709551616 * m * 18446744073709551616 + (a.natAbs : Int) % 18446744073709551616 * m)) from (by simp only [Sp.wl]; omega))) .u64) <|
            .a 3 3 <| .nil _ _) ?_
          refine aw_sq 4094 4095 ?_
          refine aw_p 8189 (
            .a 1 4 <| .nil _ _) ?_
          refine aw_cd 16378 16379 (!((decide (a < 0)) == (decide (n < 0)))) (fun h13 => ?_) (fun h13 => ?_)
          · have h13p : (¬ ((((a < 0)) ↔ ((n < 0))))) := by first | (simpa using h13) | (have h13q := h13; simp at h13q; omega) | (have h13q := bx3 h13; simp at h13q; omega)
            refine aw_p1 (
              .a 1 4 <| .p (does_c (wneg_ok ((a.natAbs : Int) / 18446744073709551616 * m * 18446744073709551616 + (a.natAbs : Int) % 18446744073709551616 * m))) <| .a 1 4 <| .nil _ _) ?_
            refine then_normal ?_
            refine aw_p 8191 (
              .a 3 4 <| .nil _ _) ?_
            refine aw_rt ?_
            exact en_ret [.agg #[.int .i64 (Sp.wh (-((a.natAbs : Int) / 18446744073709551616 * m * 18446744073709551616 + (a.natAbs : Int) % 18446744073709551616 * m))), .int .u64 (Sp.wl (-((a.natAbs : Int) / 18446744073709551616 * m * 18446744073709551616 + (a.natAbs : Int) % 18446744073709551616 * m)))], .int .i64 0] (show (.tuple #[.agg #[.int .i64 (Sp.wh (-((a.natAbs : Int) / 18446744073709551616 * m * 18446744073709551616 + (a.natAbs : Int) % 18446744073709551616 * m))), .int .u64 (Sp.wl (-((a.natAbs : Int) / 18446744073709551616 * m * 18446744073709551616 + (a.natAbs : Int) % 18446744073709551616 * m)))], .int .i64 0] : Value) = (.tuple #[.agg #[.int .i64 (Sp.wh (Sp.tm (a * n))), .int .u64 (Sp.wl (Sp.tm (a * n)))], .int .i64 (Sp.tmE (a * n))]) from (congrArg (fun z : List Value => Value.tuple z.toArray) (lcons (congrArg (fun z : List Value => Value.agg z.toArray) (lcons (congrArg (Value.int .i64) (show (Sp.wh (-((a.natAbs : Int) / 18446744073709551616 * m * 18446744073709551616 + (a.natAbs : Int) % 18446744073709551616 * m))) = (Sp.wh (Sp.tm (a * n))) from by (first | (rw [(Sp.tm_no (x := a * n) (by omega)).1]; decide) | (rw [(Sp.tm_no (x := a * n) (by omega)).2]) | (rw [(Sp.tm_yes (x := a * n) (by omega)).1]; congr 1; omega) | (rw [(Sp.tm_yes (x := a * n) (by omega)).2])))) (lcons (congrArg (Value.int .u64) (show (Sp.wl (-((a.natAbs : Int) / 18446744073709551616 * m * 18446744073709551616 + (a.natAbs : Int) % 18446744073709551616 * m))) = (Sp.wl (Sp.tm (a * n))) from by (first | (rw [(Sp.tm_no (x := a * n) (by omega)).1]; decide) | (rw [(Sp.tm_no (x := a * n) (by omega)).2]) | (rw [(Sp.tm_yes (x := a * n) (by omega)).1]; congr 1; omega) | (rw [(Sp.tm_yes (x := a * n) (by omega)).2])))) rfl))) (lcons (congrArg (Value.int .i64) (show 0 = (Sp.tmE (a * n)) from by (first | (rw [(Sp.tm_no (x := a * n) (by omega)).1]; decide) | (rw [(Sp.tm_no (x := a * n) (by omega)).2]) | (rw [(Sp.tm_yes (x := a * n) (by omega)).1]; congr 1; omega) | (rw [(Sp.tm_yes (x := a * n) (by omega)).2])))) rfl))))
          · have h13p : ¬ (¬ ((((a < 0)) ↔ ((n < 0))))) := by first | (simpa using h13) | (have h13q := h13; simp at h13q; omega) | (have h13q := bx4 h13; simp at h13q; omega)
            refine aw_sk ?_
            refine then_normal ?_
            refine aw_p 8191 (
              .a 3 4 <| .nil _ _) ?_
            refine aw_rt ?_
            exact en_ret [.agg #[.int .i64 (Sp.wh ((a.natAbs : Int) / 18446744073709551616 * m * 18446744073709551616 + (a.natAbs : Int) % 18446744073709551616 * m)), .int .u64 (Sp.wl ((a.natAbs : Int) / 18446744073709551616 * m * 18446744073709551616 + (a.natAbs : Int) % 18446744073709551616 * m))], .int .i64 0] (show (.tuple #[.agg #[.int .i64 (Sp.wh ((a.natAbs : Int) / 18446744073709551616 * m * 18446744073709551616 + (a.natAbs : Int) % 18446744073709551616 * m)), .int .u64 (Sp.wl ((a.natAbs : Int) / 18446744073709551616 * m * 18446744073709551616 + (a.natAbs : Int) % 18446744073709551616 * m))], .int .i64 0] : Value) = (.tuple #[.agg #[.int .i64 (Sp.wh (Sp.tm (a * n))), .int .u64 (Sp.wl (Sp.tm (a * n)))], .int .i64 (Sp.tmE (a * n))]) from (congrArg (fun z : List Value => Value.tuple z.toArray) (lcons (congrArg (fun z : List Value => Value.agg z.toArray) (lcons (congrArg (Value.int .i64) (show (Sp.wh ((a.natAbs : Int) / 18446744073709551616 * m * 18446744073709551616 + (a.natAbs : Int) % 18446744073709551616 * m)) = (Sp.wh (Sp.tm (a * n))) from by (first | (rw [(Sp.tm_no (x := a * n) (by omega)).1]; decide) | (rw [(Sp.tm_no (x := a * n) (by omega)).2]) | (rw [(Sp.tm_yes (x := a * n) (by omega)).1]; congr 1; omega) | (rw [(Sp.tm_yes (x := a * n) (by omega)).2])))) (lcons (congrArg (Value.int .u64) (show (Sp.wl ((a.natAbs : Int) / 18446744073709551616 * m * 18446744073709551616 + (a.natAbs : Int) % 18446744073709551616 * m)) = (Sp.wl (Sp.tm (a * n))) from by (first | (rw [(Sp.tm_no (x := a * n) (by omega)).1]; decide) | (rw [(Sp.tm_no (x := a * n) (by omega)).2]) | (rw [(Sp.tm_yes (x := a * n) (by omega)).1]; congr 1; omega) | (rw [(Sp.tm_yes (x := a * n) (by omega)).2])))) rfl))) (lcons (congrArg (Value.int .i64) (show 0 = (Sp.tmE (a * n)) from by (first | (rw [(Sp.tm_no (x := a * n) (by omega)).1]; decide) | (rw [(Sp.tm_no (x := a * n) (by omega)).2]) | (rw [(Sp.tm_yes (x := a * n) (by omega)).1]; congr 1; omega) | (rw [(Sp.tm_yes (x := a * n) (by omega)).2])))) rfl))))

theorem len64_ok (x : Int) (h0 : 0 ≤ x) (h1 : x ≤ 18446744073709551615) :
    AC Tryd.prog 99 0 ([.int .u64 x]) [] (.int .i64 (Sp.bl x)) [] := by
  refine ac_in Tryd.func99 (fun w0 W pin => ?_)
  refine aw_p 3 (
    .a 1 1 <| .nil _ _) ?_
  refine aw_sq 6 7 ?_
  refine aw_p 13 (
    .a 2 1 <| .nil _ _) ?_
  refine aw_cd 26 27 (decide (x ≥ 4294967296)) (fun h1 => ?_) (fun h1 => ?_)
  · have h1p : ((x ≥ 4294967296)) := by first | (simpa using h1) | (have h1q := h1; simp at h1q; omega) | (have h1q := bx1 h1; simp at h1q; omega)
    refine aw_p 53 (
      .a 1 1 <| .p (does_i (x / 4294967296) (Sp.ufd (by decide)) .u64) <| .a 1 1 <| .nil _ _) ?_
    refine aw_p1 (
      .a 1 1 <| .nil _ _) ?_
    refine then_normal ?_
    refine aw_sq 14 15 ?_
    refine aw_p 29 (
      .a 2 1 <| .nil _ _) ?_
    refine aw_cd 58 59 (decide ((x / 4294967296) ≥ 65536)) (fun h2 => ?_) (fun h2 => ?_)
    · have h2p : (((x / 4294967296) ≥ 65536)) := by first | (simpa using h2) | (have h2q := h2; simp at h2q; omega) | (have h2q := bx1 h2; simp at h2q; omega)
      refine aw_p 117 (
        .a 1 1 <| .p (does_i ((x / 4294967296) / 65536) (Sp.ufd (by decide)) .u64) <| .a 1 1 <| .nil _ _) ?_
      refine aw_p1 (
        .a 3 1 <| .nil _ _) ?_
      refine then_normal ?_
      refine aw_sq 30 31 ?_
      refine aw_p 61 (
        .a 2 1 <| .nil _ _) ?_
      refine aw_cd 122 123 (decide (((x / 4294967296) / 65536) ≥ 256)) (fun h3 => ?_) (fun h3 => ?_)
      · have h3p : ((((x / 4294967296) / 65536) ≥ 256)) := by first | (simpa using h3) | (have h3q := h3; simp at h3q; omega) | (have h3q := bx1 h3; simp at h3q; omega)
        refine aw_p 245 (
          .a 1 1 <| .p (does_i (((x / 4294967296) / 65536) / 256) (Sp.ufd (by decide)) .u64) <| .a 1 1 <| .nil _ _) ?_
        refine aw_p1 (
          .a 3 1 <| .nil _ _) ?_
        refine then_normal ?_
        refine aw_p 63 (
          .a 2 1 <| .p (does_i (((x / 4294967296) / 65536) / 256) (wrap_u8 (by omega) (by omega)) .u8) <|
          .p (does_int (n' := Sp.bl (((x / 4294967296) / 65536) / 256)) (does_ixs (s := Sp.tab8) (j := (((x / 4294967296) / 65536) / 256)) (b := (Sp.tab8_get (j := (((x / 4294967296) / 65536) / 256)) (by omega) (by omega)).choose) (by omega) (Sp.tab8_get (j := (((x / 4294967296) / 65536) / 256)) (by omega) (by omega)).choose_spec.1) (Sp.tab8_get (j := (((x / 4294967296) / 65536) / 256)) (by omega) (by omega)).choose_spec.2) <|
          .a 3 1 <| .nil _ _) ?_
        refine aw_rt ?_
        exact en_ret [.int .i64 (IntKind.wrap .i64 (56 + (IntKind.wrap .i64 (Sp.bl (((x / 4294967296) / 65536) / 256)))))] (show (.int .i64 (IntKind.wrap .i64 (56 + (IntKind.wrap .i64 (Sp.bl (((x / 4294967296) / 65536) / 256))))) : Value) = (.int .i64 (Sp.bl x)) from (congrArg (Value.int .i64) (show (IntKind.wrap .i64 (56 + (IntKind.wrap .i64 (Sp.bl (((x / 4294967296) / 65536) / 256))))) = (Sp.bl x) from by (have s0 := Sp.bl_shift (x := x) (k := 32) (by simp only [Int.reducePow]; omega); simp only [Int.reducePow] at s0; have s1 := Sp.bl_shift (x := x / 4294967296) (k := 16) (by simp only [Int.reducePow]; omega); simp only [Int.reducePow] at s1; have s2 := Sp.bl_shift (x := x / 4294967296 / 65536) (k := 8) (by simp only [Int.reducePow]; omega); simp only [Int.reducePow] at s2; have b := Sp.bl_bd (x := x / 4294967296 / 65536 / 256) (k := 8) (by omega) (by simp only [Int.reducePow]; omega); simp only [IntKind.wrap_i64]; omega))))
      · have h3p : ¬ ((((x / 4294967296) / 65536) ≥ 256)) := by first | (simpa using h3) | (have h3q := h3; simp at h3q; omega) | (have h3q := bx2 h3; simp at h3q; omega)
        refine aw_sk ?_
        refine then_normal ?_
        refine aw_p 63 (
          .a 2 1 <| .p (does_i ((x / 4294967296) / 65536) (wrap_u8 (by omega) (by omega)) .u8) <|
          .p (does_int (n' := Sp.bl ((x / 4294967296) / 65536)) (does_ixs (s := Sp.tab8) (j := ((x / 4294967296) / 65536)) (b := (Sp.tab8_get (j := ((x / 4294967296) / 65536)) (by omega) (by omega)).choose) (by omega) (Sp.tab8_get (j := ((x / 4294967296) / 65536)) (by omega) (by omega)).choose_spec.1) (Sp.tab8_get (j := ((x / 4294967296) / 65536)) (by omega) (by omega)).choose_spec.2) <|
          .a 3 1 <| .nil _ _) ?_
        refine aw_rt ?_
        exact en_ret [.int .i64 (IntKind.wrap .i64 (48 + (IntKind.wrap .i64 (Sp.bl ((x / 4294967296) / 65536)))))] (show (.int .i64 (IntKind.wrap .i64 (48 + (IntKind.wrap .i64 (Sp.bl ((x / 4294967296) / 65536))))) : Value) = (.int .i64 (Sp.bl x)) from (congrArg (Value.int .i64) (show (IntKind.wrap .i64 (48 + (IntKind.wrap .i64 (Sp.bl ((x / 4294967296) / 65536))))) = (Sp.bl x) from by (have s0 := Sp.bl_shift (x := x) (k := 32) (by simp only [Int.reducePow]; omega); simp only [Int.reducePow] at s0; have s1 := Sp.bl_shift (x := x / 4294967296) (k := 16) (by simp only [Int.reducePow]; omega); simp only [Int.reducePow] at s1; have b := Sp.bl_bd (x := x / 4294967296 / 65536) (k := 8) (by omega) (by simp only [Int.reducePow]; omega); simp only [IntKind.wrap_i64]; omega))))
    · have h2p : ¬ (((x / 4294967296) ≥ 65536)) := by first | (simpa using h2) | (have h2q := h2; simp at h2q; omega) | (have h2q := bx2 h2; simp at h2q; omega)
      refine aw_sk ?_
      refine then_normal ?_
      refine aw_sq 30 31 ?_
      refine aw_p 61 (
        .a 2 1 <| .nil _ _) ?_
      refine aw_cd 122 123 (decide ((x / 4294967296) ≥ 256)) (fun h4 => ?_) (fun h4 => ?_)
      · have h4p : (((x / 4294967296) ≥ 256)) := by first | (simpa using h4) | (have h4q := h4; simp at h4q; omega) | (have h4q := bx1 h4; simp at h4q; omega)
        refine aw_p 245 (
          .a 1 1 <| .p (does_i ((x / 4294967296) / 256) (Sp.ufd (by decide)) .u64) <| .a 1 1 <| .nil _ _) ?_
        refine aw_p1 (
          .a 3 1 <| .nil _ _) ?_
        refine then_normal ?_
        refine aw_p 63 (
          .a 2 1 <| .p (does_i ((x / 4294967296) / 256) (wrap_u8 (by omega) (by omega)) .u8) <|
          .p (does_int (n' := Sp.bl ((x / 4294967296) / 256)) (does_ixs (s := Sp.tab8) (j := ((x / 4294967296) / 256)) (b := (Sp.tab8_get (j := ((x / 4294967296) / 256)) (by omega) (by omega)).choose) (by omega) (Sp.tab8_get (j := ((x / 4294967296) / 256)) (by omega) (by omega)).choose_spec.1) (Sp.tab8_get (j := ((x / 4294967296) / 256)) (by omega) (by omega)).choose_spec.2) <|
          .a 3 1 <| .nil _ _) ?_
        refine aw_rt ?_
        exact en_ret [.int .i64 (IntKind.wrap .i64 (40 + (IntKind.wrap .i64 (Sp.bl ((x / 4294967296) / 256)))))] (show (.int .i64 (IntKind.wrap .i64 (40 + (IntKind.wrap .i64 (Sp.bl ((x / 4294967296) / 256))))) : Value) = (.int .i64 (Sp.bl x)) from (congrArg (Value.int .i64) (show (IntKind.wrap .i64 (40 + (IntKind.wrap .i64 (Sp.bl ((x / 4294967296) / 256))))) = (Sp.bl x) from by (have s0 := Sp.bl_shift (x := x) (k := 32) (by simp only [Int.reducePow]; omega); simp only [Int.reducePow] at s0; have s1 := Sp.bl_shift (x := x / 4294967296) (k := 8) (by simp only [Int.reducePow]; omega); simp only [Int.reducePow] at s1; have b := Sp.bl_bd (x := x / 4294967296 / 256) (k := 8) (by omega) (by simp only [Int.reducePow]; omega); simp only [IntKind.wrap_i64]; omega))))
      · have h4p : ¬ (((x / 4294967296) ≥ 256)) := by first | (simpa using h4) | (have h4q := h4; simp at h4q; omega) | (have h4q := bx2 h4; simp at h4q; omega)
        refine aw_sk ?_
        refine then_normal ?_
        refine aw_p 63 (
          .a 2 1 <| .p (does_i (x / 4294967296) (wrap_u8 (by omega) (by omega)) .u8) <|
          .p (does_int (n' := Sp.bl (x / 4294967296)) (does_ixs (s := Sp.tab8) (j := (x / 4294967296)) (b := (Sp.tab8_get (j := (x / 4294967296)) (by omega) (by omega)).choose) (by omega) (Sp.tab8_get (j := (x / 4294967296)) (by omega) (by omega)).choose_spec.1) (Sp.tab8_get (j := (x / 4294967296)) (by omega) (by omega)).choose_spec.2) <|
          .a 3 1 <| .nil _ _) ?_
        refine aw_rt ?_
        exact en_ret [.int .i64 (IntKind.wrap .i64 (32 + (IntKind.wrap .i64 (Sp.bl (x / 4294967296)))))] (show (.int .i64 (IntKind.wrap .i64 (32 + (IntKind.wrap .i64 (Sp.bl (x / 4294967296))))) : Value) = (.int .i64 (Sp.bl x)) from (congrArg (Value.int .i64) (show (IntKind.wrap .i64 (32 + (IntKind.wrap .i64 (Sp.bl (x / 4294967296))))) = (Sp.bl x) from by (have s0 := Sp.bl_shift (x := x) (k := 32) (by simp only [Int.reducePow]; omega); simp only [Int.reducePow] at s0; have b := Sp.bl_bd (x := x / 4294967296) (k := 8) (by omega) (by simp only [Int.reducePow]; omega); simp only [IntKind.wrap_i64]; omega))))
  · have h1p : ¬ ((x ≥ 4294967296)) := by first | (simpa using h1) | (have h1q := h1; simp at h1q; omega) | (have h1q := bx2 h1; simp at h1q; omega)
    refine aw_sk ?_
    refine then_normal ?_
    refine aw_sq 14 15 ?_
    refine aw_p 29 (
      .a 2 1 <| .nil _ _) ?_
    refine aw_cd 58 59 (decide (x ≥ 65536)) (fun h5 => ?_) (fun h5 => ?_)
    · have h5p : ((x ≥ 65536)) := by first | (simpa using h5) | (have h5q := h5; simp at h5q; omega) | (have h5q := bx1 h5; simp at h5q; omega)
      refine aw_p 117 (
        .a 1 1 <| .p (does_i (x / 65536) (Sp.ufd (by decide)) .u64) <| .a 1 1 <| .nil _ _) ?_
      refine aw_p1 (
        .a 3 1 <| .nil _ _) ?_
      refine then_normal ?_
      refine aw_sq 30 31 ?_
      refine aw_p 61 (
        .a 2 1 <| .nil _ _) ?_
      refine aw_cd 122 123 (decide ((x / 65536) ≥ 256)) (fun h6 => ?_) (fun h6 => ?_)
      · have h6p : (((x / 65536) ≥ 256)) := by first | (simpa using h6) | (have h6q := h6; simp at h6q; omega) | (have h6q := bx1 h6; simp at h6q; omega)
        refine aw_p 245 (
          .a 1 1 <| .p (does_i ((x / 65536) / 256) (Sp.ufd (by decide)) .u64) <| .a 1 1 <| .nil _ _) ?_
        refine aw_p1 (
          .a 3 1 <| .nil _ _) ?_
        refine then_normal ?_
        refine aw_p 63 (
          .a 2 1 <| .p (does_i ((x / 65536) / 256) (wrap_u8 (by omega) (by omega)) .u8) <|
          .p (does_int (n' := Sp.bl ((x / 65536) / 256)) (does_ixs (s := Sp.tab8) (j := ((x / 65536) / 256)) (b := (Sp.tab8_get (j := ((x / 65536) / 256)) (by omega) (by omega)).choose) (by omega) (Sp.tab8_get (j := ((x / 65536) / 256)) (by omega) (by omega)).choose_spec.1) (Sp.tab8_get (j := ((x / 65536) / 256)) (by omega) (by omega)).choose_spec.2) <|
          .a 3 1 <| .nil _ _) ?_
        refine aw_rt ?_
        exact en_ret [.int .i64 (IntKind.wrap .i64 (24 + (IntKind.wrap .i64 (Sp.bl ((x / 65536) / 256)))))] (show (.int .i64 (IntKind.wrap .i64 (24 + (IntKind.wrap .i64 (Sp.bl ((x / 65536) / 256))))) : Value) = (.int .i64 (Sp.bl x)) from (congrArg (Value.int .i64) (show (IntKind.wrap .i64 (24 + (IntKind.wrap .i64 (Sp.bl ((x / 65536) / 256))))) = (Sp.bl x) from by (have s0 := Sp.bl_shift (x := x) (k := 16) (by simp only [Int.reducePow]; omega); simp only [Int.reducePow] at s0; have s1 := Sp.bl_shift (x := x / 65536) (k := 8) (by simp only [Int.reducePow]; omega); simp only [Int.reducePow] at s1; have b := Sp.bl_bd (x := x / 65536 / 256) (k := 8) (by omega) (by simp only [Int.reducePow]; omega); simp only [IntKind.wrap_i64]; omega))))
      · have h6p : ¬ (((x / 65536) ≥ 256)) := by first | (simpa using h6) | (have h6q := h6; simp at h6q; omega) | (have h6q := bx2 h6; simp at h6q; omega)
        refine aw_sk ?_
        refine then_normal ?_
        refine aw_p 63 (
          .a 2 1 <| .p (does_i (x / 65536) (wrap_u8 (by omega) (by omega)) .u8) <|
          .p (does_int (n' := Sp.bl (x / 65536)) (does_ixs (s := Sp.tab8) (j := (x / 65536)) (b := (Sp.tab8_get (j := (x / 65536)) (by omega) (by omega)).choose) (by omega) (Sp.tab8_get (j := (x / 65536)) (by omega) (by omega)).choose_spec.1) (Sp.tab8_get (j := (x / 65536)) (by omega) (by omega)).choose_spec.2) <|
          .a 3 1 <| .nil _ _) ?_
        refine aw_rt ?_
        exact en_ret [.int .i64 (IntKind.wrap .i64 (16 + (IntKind.wrap .i64 (Sp.bl (x / 65536)))))] (show (.int .i64 (IntKind.wrap .i64 (16 + (IntKind.wrap .i64 (Sp.bl (x / 65536))))) : Value) = (.int .i64 (Sp.bl x)) from (congrArg (Value.int .i64) (show (IntKind.wrap .i64 (16 + (IntKind.wrap .i64 (Sp.bl (x / 65536))))) = (Sp.bl x) from by (have s0 := Sp.bl_shift (x := x) (k := 16) (by simp only [Int.reducePow]; omega); simp only [Int.reducePow] at s0; have b := Sp.bl_bd (x := x / 65536) (k := 8) (by omega) (by simp only [Int.reducePow]; omega); simp only [IntKind.wrap_i64]; omega))))
    · have h5p : ¬ ((x ≥ 65536)) := by first | (simpa using h5) | (have h5q := h5; simp at h5q; omega) | (have h5q := bx2 h5; simp at h5q; omega)
      refine aw_sk ?_
      refine then_normal ?_
      refine aw_sq 30 31 ?_
      refine aw_p 61 (
        .a 2 1 <| .nil _ _) ?_
      refine aw_cd 122 123 (decide (x ≥ 256)) (fun h7 => ?_) (fun h7 => ?_)
      · have h7p : ((x ≥ 256)) := by first | (simpa using h7) | (have h7q := h7; simp at h7q; omega) | (have h7q := bx1 h7; simp at h7q; omega)
        refine aw_p 245 (
          .a 1 1 <| .p (does_i (x / 256) (Sp.ufd (by decide)) .u64) <| .a 1 1 <| .nil _ _) ?_
        refine aw_p1 (
          .a 3 1 <| .nil _ _) ?_
        refine then_normal ?_
        refine aw_p 63 (
          .a 2 1 <| .p (does_i (x / 256) (wrap_u8 (by omega) (by omega)) .u8) <|
          .p (does_int (n' := Sp.bl (x / 256)) (does_ixs (s := Sp.tab8) (j := (x / 256)) (b := (Sp.tab8_get (j := (x / 256)) (by omega) (by omega)).choose) (by omega) (Sp.tab8_get (j := (x / 256)) (by omega) (by omega)).choose_spec.1) (Sp.tab8_get (j := (x / 256)) (by omega) (by omega)).choose_spec.2) <|
          .a 3 1 <| .nil _ _) ?_
        refine aw_rt ?_
        exact en_ret [.int .i64 (IntKind.wrap .i64 (8 + (IntKind.wrap .i64 (Sp.bl (x / 256)))))] (show (.int .i64 (IntKind.wrap .i64 (8 + (IntKind.wrap .i64 (Sp.bl (x / 256))))) : Value) = (.int .i64 (Sp.bl x)) from (congrArg (Value.int .i64) (show (IntKind.wrap .i64 (8 + (IntKind.wrap .i64 (Sp.bl (x / 256))))) = (Sp.bl x) from by (have s0 := Sp.bl_shift (x := x) (k := 8) (by simp only [Int.reducePow]; omega); simp only [Int.reducePow] at s0; have b := Sp.bl_bd (x := x / 256) (k := 8) (by omega) (by simp only [Int.reducePow]; omega); simp only [IntKind.wrap_i64]; omega))))
      · have h7p : ¬ ((x ≥ 256)) := by first | (simpa using h7) | (have h7q := h7; simp at h7q; omega) | (have h7q := bx2 h7; simp at h7q; omega)
        refine aw_sk ?_
        refine then_normal ?_
        refine aw_p 63 (
          .a 2 1 <| .p (does_i x (wrap_u8 (by omega) (by omega)) .u8) <|
          .p (does_int (n' := Sp.bl x) (does_ixs (s := Sp.tab8) (j := x) (b := (Sp.tab8_get (j := x) (by omega) (by omega)).choose) (by omega) (Sp.tab8_get (j := x) (by omega) (by omega)).choose_spec.1) (Sp.tab8_get (j := x) (by omega) (by omega)).choose_spec.2) <| .a 3 1 <| .nil _ _) ?_
        refine aw_rt ?_
        exact en_ret [.int .i64 (IntKind.wrap .i64 (0 + (IntKind.wrap .i64 (Sp.bl x))))] (show (.int .i64 (IntKind.wrap .i64 (0 + (IntKind.wrap .i64 (Sp.bl x)))) : Value) = (.int .i64 (Sp.bl x)) from (congrArg (Value.int .i64) (show (IntKind.wrap .i64 (0 + (IntKind.wrap .i64 (Sp.bl x)))) = (Sp.bl x) from by (have b := Sp.bl_bd (x := x) (k := 8) (by omega) (by simp only [Int.reducePow]; omega); simp only [IntKind.wrap_i64]; omega))))

theorem lz_ok (x : Int) (h0 : 0 ≤ x) (h1 : x ≤ 18446744073709551615) :
    AC Tryd.prog 90 0 ([.int .u64 x]) [] (.int .i64 (Sp.lz x)) [] := by
  have b := Sp.bl_bd (x := x) (k := 64) h0 (by simp only [Int.reducePow]; omega)
  refine ac_in Tryd.func90 (fun w0 W pin => ?_)
  refine aw_p 3 (
    .a 1 1 <| .nil _ _) ?_
  refine aw_p 7 (
    .a 1 1 <| .p (does_c (len64_ok x (by omega) (by omega))) <| .p (does_i (64 - (Sp.bl x)) (wrap_i64 (by omega) (by omega)) .i64) <| .a 1 1 <| .nil _ _) ?_
  refine aw_rt ?_
  exact en_ret [.int .i64 (64 - (Sp.bl x))] (show (.int .i64 (64 - (Sp.bl x)) : Value) = (.int .i64 (Sp.lz x)) from (congrArg (Value.int .i64) (show (64 - (Sp.bl x)) = (Sp.lz x) from by rfl)))

theorem div64_ok (h l v : Int) (h0 : 0 ≤ h) (hv : h < v) (hv1 : v ≤ 18446744073709551615) (l0 : 0 ≤ l) (l1 : l ≤ 18446744073709551615) :
    AC Tryd.prog 70 0 ([.int .u64 h, .int .u64 l, .int .u64 v]) [] (.tuple #[.int .u64 ((h * 18446744073709551616 + l) / v), .int .u64 ((h * 18446744073709551616 + l) % v)]) [] := by
  have lz := Sp.lz_spec (y := v) (by omega) hv1; have sp := Sp.shift_parts (h := h) (l := l) (s := (Sp.lz v).toNat) (by omega) l0 l1; have hs := Sp.mul_lt_pow (s := (Sp.lz v).toNat) h0 hv
  refine ac_in Tryd.func70 (fun w0 W pin => ?_)
  refine aw_p 3 (
    .a 2 1 <| .nil _ _) ?_
  refine aw_sq 6 7 ?_
  refine aw_p 13 (
    .a 1 1 <| .p (does_b false ((show (v == 0) = false from beq_eq_false_iff_ne.2 (by omega)))) <| .nil _ _) ?_
  refine aw_fl 27 ?_
  refine aw_sk ?_
  refine then_normal ?_
  refine aw_sq 14 15 ?_
  refine aw_p 29 (
    .a 2 1 <| .p (does_b false ((show (decide (v ≤ h)) = false from decide_eq_false (by omega)))) <| .nil _ _) ?_
  refine aw_fl 59 ?_
  refine aw_sk ?_
  refine then_normal ?_
  refine aw_sq 30 31 ?_
  refine aw_p 61 (
    .a 2 1 <| .nil _ _) ?_
  refine aw_cd 122 123 (h == 0) (fun h1 => ?_) (fun h1 => ?_)
  · have h1p : ((h = 0)) := by first | (simpa using h1) | (have h1q := h1; simp at h1q; omega) | (have h1q := bx1 h1; simp at h1q; omega)
    refine aw_d 245 (
      .a 2 1 <| .p (does_int (n' := (l / v)) (does_quo (t := 25) (t2 := 25) (x := .tmp 28) (y := .tmp 29) (k := .u64) (a := l) (b := v) (by kernel_rfl) (by kernel_rfl) (by kernel_rfl) ((by omega))) ((show (IntKind.wrap .u64 (Int.tdiv l v)) = (l / v) from Sp.uquo l0 l1 (by omega)))) <| .a 2 1 <|
      .p (does_int (n' := l % v) (does_rem (t := 25) (t2 := 25) (x := .tmp 31) (y := .tmp 32) (k := .u64) (a := l) (b := v) (by kernel_rfl) (by kernel_rfl) (by kernel_rfl) ((by omega))) (Sp.umod l0)) <| .a 2 1 <| .nil _ _) ?_
    refine aw_rt ?_
    refine then_ret ?_
    exact en_ret [.int .u64 (l / v), .int .u64 (l % v)] (show (.tuple #[.int .u64 (l / v), .int .u64 (l % v)] : Value) = (.tuple #[.int .u64 ((h * 18446744073709551616 + l) / v), .int .u64 ((h * 18446744073709551616 + l) % v)]) from (congrArg (fun z : List Value => Value.tuple z.toArray) (lcons (congrArg (Value.int .u64) (show (l / v) = ((h * 18446744073709551616 + l) / v) from by (first | exact (Sp.div64_end (h := h) (l := l) (v := v) (by omega) hy ⟨u, c, hN, hw⟩ hF2.1 hF2.2.1).1 | exact (Sp.div64_end (h := h) (l := l) (v := v) (by omega) hy ⟨u, c, hN, hw⟩ hF2.1 hF2.2.1).2 | (rw [show h = 0 by omega]; simp)))) (lcons (congrArg (Value.int .u64) (show (l % v) = ((h * 18446744073709551616 + l) % v) from by (first | exact (Sp.div64_end (h := h) (l := l) (v := v) (by omega) hy ⟨u, c, hN, hw⟩ hF2.1 hF2.2.1).1 | exact (Sp.div64_end (h := h) (l := l) (v := v) (by omega) hy ⟨u, c, hN, hw⟩ hF2.1 hF2.2.1).2 | (rw [show h = 0 by omega]; simp)))) rfl))))
  · have h1p : ¬ ((h = 0)) := by first | (simpa using h1) | (have h1q := h1; simp at h1q; omega) | (have h1q := bx2 h1; simp at h1q; omega)
    refine aw_sk ?_
    refine then_normal ?_
    refine aw_p 63 (
      .a 1 1 <| .p (does_c (lz_ok v (by omega) (by omega))) <| .p (does_i (Sp.lz v) ((show (IntKind.wrap .u64 (Sp.lz v)) = (Sp.lz v) from wrap_u64 (by omega) (by omega))) .u64) <| .a 1 1 <| .nil _ _) ?_
    refine aw_p 127 (
      .a 2 1 <|
      .p (does_int (n' := (v * 2 ^ (Sp.lz v).toNat)) (does_shl (t := 25) (t2 := 47) (x := .tmp 37) (y := .tmp 38) (k := .u64) (k2 := .u64) (a := v) (b := (Sp.lz v)) (by kernel_rfl) (by kernel_rfl) (by kernel_rfl) (by omega) (by show _ ≤ 64; omega)) ((show (IntKind.wrap .u64 (v * 2 ^ (Sp.lz v).toNat)) = (v * 2 ^ (Sp.lz v).toNat) from wrap_u64 (by omega) (by omega)))) <|
      .a 1 1 <| .nil _ _) ?_
    refine aw_p 255 (
      .a 1 1 <| .p (does_i ((v * 2 ^ (Sp.lz v).toNat) / 4294967296) (Sp.ufd (by decide)) .u64) <| .a 1 1 <| .nil _ _) ?_
    refine aw_p 511 (
      .a 1 1 <| .p (does_i ((v * 2 ^ (Sp.lz v).toNat) % 4294967296) ((show (IntKind.wrap .u64 ((BitVec.ofInt 64 (v * 2 ^ (Sp.lz v).toNat) &&& BitVec.ofInt 64 4294967295).toNat : Int)) = ((v * 2 ^ (Sp.lz v).toNat) % 4294967296) from Sp.and_low (by omega) (by omega))) .u64) <| .a 1 1 <| .nil _ _) ?_
    refine aw_p 1023 (
      .a 2 1 <|
      .p (does_int (n' := (h * 2 ^ (Sp.lz v).toNat)) (does_shl (t := 25) (t2 := 47) (x := .tmp 44) (y := .tmp 45) (k := .u64) (k2 := .u64) (a := h) (b := (Sp.lz v)) (by kernel_rfl) (by kernel_rfl) (by kernel_rfl) (by omega) (by show _ ≤ 64; omega)) ((show (IntKind.wrap .u64 (h * 2 ^ (Sp.lz v).toNat)) = (h * 2 ^ (Sp.lz v).toNat) from wrap_u64 (by omega) (by omega)))) <|
      .a 2 1 <| .p (does_i (64 - (Sp.lz v)) (wrap_u64 (by omega) (by omega)) .u64) <|
      .p (does_int (n' := (l / 2 ^ (64 - (Sp.lz v).toNat))) (does_shr (t := 25) (t2 := 47) (x := .tmp 47) (y := .tmp 49) (k := .u64) (k2 := .u64) (a := l) (b := (64 - (Sp.lz v))) (by kernel_rfl) (by kernel_rfl) (by kernel_rfl) (by omega) (by show _ ≤ 64; omega)) ((show (Int.fdiv l (2 ^ (64 - (Sp.lz v)).toNat)) = (l / 2 ^ (64 - (Sp.lz v).toNat)) from Sp.shr_sub (by omega) (by omega)))) <|
      .p (does_i (h * 2 ^ (Sp.lz v).toNat + l / 2 ^ (64 - (Sp.lz v).toNat)) ((show (IntKind.wrap .u64 ((BitVec.ofInt 64 (h * 2 ^ (Sp.lz v).toNat) ||| BitVec.ofInt 64 (l / 2 ^ (64 - (Sp.lz v).toNat))).toNat : Int)) = (h * 2 ^ (Sp.lz v).toNat + l / 2 ^ (64 - (Sp.lz v).toNat)) from (by rw [Sp.wrapbv]; exact Sp.or_add (by omega) h0 (by omega) sp.2.1 sp.2.2))) .u64) <|
      .a 1 1 <| .nil _ _) ?_
    refine aw_w [(1, .int .u64 l), (2, .int .u64 (v * 2 ^ (Sp.lz v).toNat)), (6, .int .u64 0), (7, .int .u64 0), (8, .int .u64 (Sp.lz v)), (9, .int .u64 ((v * 2 ^ (Sp.lz v).toNat) / 4294967296)), (10, .int .u64 ((v * 2 ^ (Sp.lz v).toNat) % 4294967296)), (11, .int .u64 (h * 2 ^ (Sp.lz v).toNat + l / 2 ^ (64 - (Sp.lz v).toNat)))] [] ?_
    refine aw_p 2047 (
      .a 2 1 <| .p (does_int (n' := (l * 2 ^ (Sp.lz v).toNat % 18446744073709551616)) (does_shl (t := 25) (t2 := 47) (x := .tmp 52) (y := .tmp 53) (k := .u64) (k2 := .u64) (a := l) (b := (Sp.lz v)) (by kernel_rfl) (by kernel_rfl) (by kernel_rfl) (by omega) (by show _ ≤ 64; omega)) (Sp.ulow)) <| .a 1 1 <| .nil _ _) ?_
    refine aw_p 4095 (
      .a 1 1 <| .p (does_i ((l * 2 ^ (Sp.lz v).toNat % 18446744073709551616) / 4294967296) (Sp.ufd (by decide)) .u64) <| .a 1 1 <| .nil _ _) ?_
    refine aw_p 8191 (
      .a 1 1 <|
      .p (does_i ((l * 2 ^ (Sp.lz v).toNat % 18446744073709551616) % 4294967296) ((show (IntKind.wrap .u64 ((BitVec.ofInt 64 (l * 2 ^ (Sp.lz v).toNat % 18446744073709551616) &&& BitVec.ofInt 64 4294967295).toNat : Int)) = ((l * 2 ^ (Sp.lz v).toNat % 18446744073709551616) % 4294967296) from Sp.and_low (by omega) (by omega))) .u64) <|
      .a 1 1 <| .nil _ _) ?_
    refine aw_gen (fun z : Int × Int × Int × Int × Int × Int => (fun (u : Int) (y : Int) (a : Int) (b : Int) (c : Int) (d : Int) => mkSt 0 [(2, .int .u64 y), (6, .int .u64 0), (7, .int .u64 0), (8, .int .u64 (Sp.lz v)), (9, .int .u64 a), (10, .int .u64 b), (11, .int .u64 u), (13, .int .u64 c), (14, .int .u64 d)] []) z.1 z.2.1 z.2.2.1 z.2.2.2.1 z.2.2.2.2.1 z.2.2.2.2.2) (fun z : Int × Int × Int × Int × Int × Int => (fun (u : Int) (y : Int) (a : Int) (b : Int) (c : Int) (d : Int) => (y = a * 4294967296 + b) ∧ (2147483648 ≤ a) ∧ (a ≤ 4294967295) ∧ (0 ≤ b) ∧ (b ≤ 4294967295) ∧ (0 ≤ c) ∧ (c ≤ 4294967295) ∧ (0 ≤ d) ∧ (d ≤ 4294967295) ∧ (0 ≤ u) ∧ (u < y) ∧ (y = v * 2 ^ (Sp.lz v).toNat) ∧ ((u * 4294967296 + c) * 4294967296 + d = (h * 18446744073709551616 + l) * 2 ^ (Sp.lz v).toNat)) z.1 z.2.1 z.2.2.1 z.2.2.2.1 z.2.2.2.2.1 z.2.2.2.2.2) ((h * 2 ^ (Sp.lz v).toNat + l / 2 ^ (64 - (Sp.lz v).toNat)), (v * 2 ^ (Sp.lz v).toNat), ((v * 2 ^ (Sp.lz v).toNat) / 4294967296), ((v * 2 ^ (Sp.lz v).toNat) % 4294967296), ((l * 2 ^ (Sp.lz v).toNat % 18446744073709551616) / 4294967296), ((l * 2 ^ (Sp.lz v).toNat % 18446744073709551616) % 4294967296)) (show ((v * 2 ^ (Sp.lz v).toNat) = ((v * 2 ^ (Sp.lz v).toNat) / 4294967296) * 4294967296 + ((v * 2 ^ (Sp.lz v).toNat) % 4294967296)) ∧ (2147483648 ≤ ((v * 2 ^ (Sp.lz v).toNat) / 4294967296)) ∧ (((v * 2 ^ (Sp.lz v).toNat) / 4294967296) ≤ 4294967295) ∧ (0 ≤ ((v * 2 ^ (Sp.lz v).toNat) % 4294967296)) ∧ (((v * 2 ^ (Sp.lz v).toNat) % 4294967296) ≤ 4294967295) ∧ (0 ≤ ((l * 2 ^ (Sp.lz v).toNat % 18446744073709551616) / 4294967296)) ∧ (((l * 2 ^ (Sp.lz v).toNat % 18446744073709551616) / 4294967296) ≤ 4294967295) ∧ (0 ≤ ((l * 2 ^ (Sp.lz v).toNat % 18446744073709551616) % 4294967296)) ∧ (((l * 2 ^ (Sp.lz v).toNat % 18446744073709551616) % 4294967296) ≤ 4294967295) ∧ (0 ≤ (h * 2 ^ (Sp.lz v).toNat + l / 2 ^ (64 - (Sp.lz v).toNat))) ∧ ((h * 2 ^ (Sp.lz v).toNat + l / 2 ^ (64 - (Sp.lz v).toNat)) < (v * 2 ^ (Sp.lz v).toNat)) ∧ ((v * 2 ^ (Sp.lz v).toNat) = v * 2 ^ (Sp.lz v).toNat) ∧ (((h * 2 ^ (Sp.lz v).toNat + l / 2 ^ (64 - (Sp.lz v).toNat)) * 4294967296 + ((l * 2 ^ (Sp.lz v).toNat % 18446744073709551616) / 4294967296)) * 4294967296 + ((l * 2 ^ (Sp.lz v).toNat % 18446744073709551616) % 4294967296) = (h * 18446744073709551616 + l) * 2 ^ (Sp.lz v).toNat) from ⟨by omega, by omega, by omega, by omega, by omega, by omega, by omega, by omega, by omega, by omega, by (have := Sp.mul_le_of_lt (s := (Sp.lz v).toNat) hv; omega), by rfl, by (obtain ⟨e, _⟩ := sp; omega)⟩) [(2, .int .u64 (v * 2 ^ (Sp.lz v).toNat)), (6, .int .u64 0), (7, .int .u64 0), (8, .int .u64 (Sp.lz v)), (9, .int .u64 ((v * 2 ^ (Sp.lz v).toNat) / 4294967296)), (10, .int .u64 ((v * 2 ^ (Sp.lz v).toNat) % 4294967296)), (11, .int .u64 (h * 2 ^ (Sp.lz v).toNat + l / 2 ^ (64 - (Sp.lz v).toNat))), (13, .int .u64 ((l * 2 ^ (Sp.lz v).toNat % 18446744073709551616) / 4294967296)), (14, .int .u64 ((l * 2 ^ (Sp.lz v).toNat % 18446744073709551616) % 4294967296))] [] (fun z hz => ?_)
    obtain ⟨u, y, a, b, c, d⟩ := z
    have hz' : (y = a * 4294967296 + b) ∧ (2147483648 ≤ a) ∧ (a ≤ 4294967295) ∧ (0 ≤ b) ∧ (b ≤ 4294967295) ∧ (0 ≤ c) ∧ (c ≤ 4294967295) ∧ (0 ≤ d) ∧ (d ≤ 4294967295) ∧ (0 ≤ u) ∧ (u < y) ∧ (y = v * 2 ^ (Sp.lz v).toNat) ∧ ((u * 4294967296 + c) * 4294967296 + d = (h * 18446744073709551616 + l) * 2 ^ (Sp.lz v).toNat) := hz
    obtain ⟨ya, a0, a1, b0, b1, c0, c1, d0, d1, u0, u1, hy, hN⟩ := hz'
    clear hz
    show AW _ _ _ (mkSt 0 [(2, .int .u64 y), (6, .int .u64 0), (7, .int .u64 0), (8, .int .u64 (Sp.lz v)), (9, .int .u64 a), (10, .int .u64 b), (11, .int .u64 u), (13, .int .u64 c), (14, .int .u64 d)] []) _
    refine aw_p 16383 (
      .a 2 1 <| .p (does_int (n' := (u / a)) (does_quo (t := 25) (t2 := 25) (x := .tmp 59) (y := .tmp 60) (k := .u64) (a := u) (b := a) (by kernel_rfl) (by kernel_rfl) (by kernel_rfl) ((by omega))) ((show (IntKind.wrap .u64 (Int.tdiv u a)) = (u / a) from Sp.uquo u0 (by omega) (by omega)))) <| .a 1 1 <| .nil _ _) ?_
    refine aw_p 32767 (
      .a 3 1 <| .p (does_i (u / a * a) ((show (IntKind.wrap .u64 ((u / a) * a)) = (u / a * a) from (by have := Sp.quo_mul u0 (show 0 < a by omega); exact wrap_u64 (by omega) (by omega)))) .u64) <|
      .p (does_i (u - u / a * a) ((show (IntKind.wrap .u64 (u - (u / a * a))) = (u - u / a * a) from (by have := Sp.quo_mul u0 (show 0 < a by omega); exact wrap_u64 (by omega) (by omega)))) .u64) <| .a 1 1 <| .nil _ _) ?_
    refine aw_sq 65534 65535 ?_
    refine aw_bl 0 131069 ?_
    refine aw_lp 262139 ?_
    refine al_w [(2, .int .u64 y), (6, .int .u64 0), (7, .int .u64 0), (8, .int .u64 (Sp.lz v)), (9, .int .u64 a), (10, .int .u64 b), (11, .int .u64 u), (13, .int .u64 c), (14, .int .u64 d), (15, .int .u64 (u / a)), (16, .int .u64 (u - u / a * a))] [] ?_
    refine al_ind (fun i : Int × Int => (fun (q : Int) (r : Int) => mkSt 0 [(2, .int .u64 y), (6, .int .u64 0), (7, .int .u64 0), (8, .int .u64 (Sp.lz v)), (9, .int .u64 a), (10, .int .u64 b), (11, .int .u64 u), (13, .int .u64 c), (14, .int .u64 d), (15, .int .u64 q), (16, .int .u64 r)] []) i.1 i.2) (fun i : Int × Int => (fun (q : Int) (r : Int) => (Sp.Guess u y a b c q r) ∧ (r ≤ 4294967295)) i.1 i.2) (fun i : Int × Int => (fun (q : Int) (r : Int) => q.toNat) i.1 i.2) (fun i hi1 ih1 => ?_) ((u / a), (u - u / a * a)) (show (Sp.Guess u y a b c (u / a) (u - u / a * a)) ∧ ((u - u / a * a) ≤ 4294967295) from ⟨by exact (Sp.Guess.first ya a0 a1 b0 b1 c0 c1 u0 u1).1, by exact (Sp.Guess.first ya a0 a1 b0 b1 c0 c1 u0 u1).2⟩)
    obtain ⟨q, r⟩ := i
    have hi1' : (Sp.Guess u y a b c q r) ∧ (r ≤ 4294967295) := hi1
    obtain ⟨gq, hr⟩ := hi1'
    show AL _ _ _ (mkSt 0 [(2, .int .u64 y), (6, .int .u64 0), (7, .int .u64 0), (8, .int .u64 (Sp.lz v)), (9, .int .u64 a), (10, .int .u64 b), (11, .int .u64 u), (13, .int .u64 c), (14, .int .u64 d), (15, .int .u64 q), (16, .int .u64 r)] []) _
    have gp := gq.prod; have ga0 := gq.a0; have ga1 := gq.a1; have gb0 := gq.b0; have gb1 := gq.b1; have gu0 := gq.u0; have gu1 := gq.u1; have gq0 := gq.q0; have gq1 := gq.q1; have gr0 := gq.r0
    refine al_joinG (y := sb Tryd.f70 65535) (S1 := (fun z : Int × Int => (fun (q : Int) (r : Int) => mkSt 0 [(2, .int .u64 y), (6, .int .u64 0), (7, .int .u64 0), (8, .int .u64 (Sp.lz v)), (9, .int .u64 a), (10, .int .u64 b), (11, .int .u64 u), (13, .int .u64 c), (14, .int .u64 d), (15, .int .u64 q), (16, .int .u64 r)] []) z.1 z.2)) (fun z : Int × Int => (fun (q : Int) (r : Int) => q * y ≤ u * 4294967296 + c ∧ u * 4294967296 + c < q * y + y ∧ 0 ≤ q ∧ q ≤ 4294967295) z.1 z.2) (fun z hF1 => ?_) (fun K1 => ?_)
    · obtain ⟨q, r⟩ := z
      have hF1 : q * y ≤ u * 4294967296 + c ∧ u * 4294967296 + c < q * y + y ∧ 0 ≤ q ∧ q ≤ 4294967295 := hF1
      show AW _ _ _ (mkSt 0 [(2, .int .u64 y), (6, .int .u64 0), (7, .int .u64 0), (8, .int .u64 (Sp.lz v)), (9, .int .u64 a), (10, .int .u64 b), (11, .int .u64 u), (13, .int .u64 c), (14, .int .u64 d), (15, .int .u64 q), (16, .int .u64 r)] []) _
      refine aw_p 131071 (
        .a 7 1 <| .p (does_i (u * 4294967296 + c - q * y) ((show (IntKind.wrap .u64 ((IntKind.wrap .u64 ((IntKind.wrap .u64 (u * 4294967296)) + c)) - (IntKind.wrap .u64 (q * y)))) = (u * 4294967296 + c - q * y) from (by simp only [IntKind.wrap_u64]; omega))) .u64) <| .a 1 1 <| .nil _ _) ?_
      refine aw_gen (fun z : Int => (fun (w : Int) => mkSt 0 [(2, .int .u64 y), (6, .int .u64 0), (7, .int .u64 0), (8, .int .u64 (Sp.lz v)), (9, .int .u64 a), (10, .int .u64 b), (14, .int .u64 d), (15, .int .u64 q), (17, .int .u64 w)] []) z) (fun z : Int => (fun (w : Int) => (0 ≤ w) ∧ (w < y) ∧ (w = u * 4294967296 + c - q * y)) z) ((u * 4294967296 + c - q * y)) (show (0 ≤ (u * 4294967296 + c - q * y)) ∧ ((u * 4294967296 + c - q * y) < y) ∧ ((u * 4294967296 + c - q * y) = u * 4294967296 + c - q * y) from ⟨by omega, by omega, by rfl⟩) [(2, .int .u64 y), (6, .int .u64 0), (7, .int .u64 0), (8, .int .u64 (Sp.lz v)), (9, .int .u64 a), (10, .int .u64 b), (14, .int .u64 d), (15, .int .u64 q), (17, .int .u64 (u * 4294967296 + c - q * y))] [] (fun z hz => ?_)
      obtain ⟨w, hv⟩ : ∃ y, y = z := ⟨z, rfl⟩; subst hv
      have hz' : (0 ≤ w) ∧ (w < y) ∧ (w = u * 4294967296 + c - q * y) := hz
      obtain ⟨w0, w1, hw⟩ := hz'
      clear hz
      show AW _ _ _ (mkSt 0 [(2, .int .u64 y), (6, .int .u64 0), (7, .int .u64 0), (8, .int .u64 (Sp.lz v)), (9, .int .u64 a), (10, .int .u64 b), (14, .int .u64 d), (15, .int .u64 q), (17, .int .u64 w)] []) _
      refine aw_p 262143 (
        .a 2 1 <| .p (does_int (n' := (w / a)) (does_quo (t := 25) (t2 := 25) (x := .tmp 94) (y := .tmp 95) (k := .u64) (a := w) (b := a) (by kernel_rfl) (by kernel_rfl) (by kernel_rfl) ((by omega))) ((show (IntKind.wrap .u64 (Int.tdiv w a)) = (w / a) from Sp.uquo (by omega) (by omega) (by omega)))) <|
        .a 1 1 <| .nil _ _) ?_
      refine aw_p 524287 (
        .a 3 1 <| .p (does_i (w / a * a) ((show (IntKind.wrap .u64 ((w / a) * a)) = (w / a * a) from (by have := Sp.quo_mul w0 (show 0 < a by omega); exact wrap_u64 (by omega) (by omega)))) .u64) <|
        .p (does_i (w - w / a * a) ((show (IntKind.wrap .u64 (w - (w / a * a))) = (w - w / a * a) from (by have := Sp.quo_mul w0 (show 0 < a by omega); exact wrap_u64 (by omega) (by omega)))) .u64) <| .a 1 1 <| .nil _ _) ?_
      refine aw_sq 1048574 1048575 ?_
      refine aw_bl 2 2097149 ?_
      refine aw_lp 4194299 ?_
      refine al_w [(2, .int .u64 y), (6, .int .u64 0), (7, .int .u64 0), (8, .int .u64 (Sp.lz v)), (9, .int .u64 a), (10, .int .u64 b), (14, .int .u64 d), (15, .int .u64 q), (16, .int .u64 (w - w / a * a)), (17, .int .u64 w), (18, .int .u64 (w / a))] [] ?_
      refine al_ind (fun i : Int × Int => (fun (k : Int) (t : Int) => mkSt 0 [(2, .int .u64 y), (6, .int .u64 0), (7, .int .u64 0), (8, .int .u64 (Sp.lz v)), (9, .int .u64 a), (10, .int .u64 b), (14, .int .u64 d), (15, .int .u64 q), (16, .int .u64 t), (17, .int .u64 w), (18, .int .u64 k)] []) i.1 i.2) (fun i : Int × Int => (fun (k : Int) (t : Int) => (Sp.Guess w y a b d k t) ∧ (t ≤ 4294967295)) i.1 i.2) (fun i : Int × Int => (fun (k : Int) (t : Int) => k.toNat) i.1 i.2) (fun i hi2 ih2 => ?_) ((w / a), (w - w / a * a)) (show (Sp.Guess w y a b d (w / a) (w - w / a * a)) ∧ ((w - w / a * a) ≤ 4294967295) from ⟨by exact (Sp.Guess.first ya a0 a1 b0 b1 d0 d1 (by omega) (by omega)).1, by exact (Sp.Guess.first ya a0 a1 b0 b1 d0 d1 (by omega) (by omega)).2⟩)
      obtain ⟨k, t⟩ := i
      have hi2' : (Sp.Guess w y a b d k t) ∧ (t ≤ 4294967295) := hi2
      obtain ⟨gk, ht⟩ := hi2'
      show AL _ _ _ (mkSt 0 [(2, .int .u64 y), (6, .int .u64 0), (7, .int .u64 0), (8, .int .u64 (Sp.lz v)), (9, .int .u64 a), (10, .int .u64 b), (14, .int .u64 d), (15, .int .u64 q), (16, .int .u64 t), (17, .int .u64 w), (18, .int .u64 k)] []) _
      have gp := gk.prod; have ga0 := gk.a0; have ga1 := gk.a1; have gb0 := gk.b0; have gb1 := gk.b1; have gu0 := gk.u0; have gu1 := gk.u1; have gq0 := gk.q0; have gq1 := gk.q1; have gr0 := gk.r0
      refine al_joinG (y := sb Tryd.f70 1048575) (S1 := (fun z : Int × Int => (fun (k : Int) (t : Int) => mkSt 0 [(2, .int .u64 y), (6, .int .u64 0), (7, .int .u64 0), (8, .int .u64 (Sp.lz v)), (9, .int .u64 a), (10, .int .u64 b), (14, .int .u64 d), (15, .int .u64 q), (16, .int .u64 t), (17, .int .u64 w), (18, .int .u64 k)] []) z.1 z.2)) (fun z : Int × Int => (fun (k : Int) (t : Int) => k * y ≤ w * 4294967296 + d ∧ w * 4294967296 + d < k * y + y ∧ 0 ≤ k ∧ k ≤ 4294967295) z.1 z.2) (fun z hF2 => ?_) (fun K2 => ?_)
      · obtain ⟨k, t⟩ := z
        have hF2 : k * y ≤ w * 4294967296 + d ∧ w * 4294967296 + d < k * y + y ∧ 0 ≤ k ∧ k ≤ 4294967295 := hF2
        show AW _ _ _ (mkSt 0 [(2, .int .u64 y), (6, .int .u64 0), (7, .int .u64 0), (8, .int .u64 (Sp.lz v)), (9, .int .u64 a), (10, .int .u64 b), (14, .int .u64 d), (15, .int .u64 q), (16, .int .u64 t), (17, .int .u64 w), (18, .int .u64 k)] []) _
        refine aw_p 2097151 (
          .a 1 1 <| .p (does_i (q * 4294967296) (wrap_u64 (by omega) (by omega)) .u64) <| .a 1 1 <| .p (does_i ((q * 4294967296) + k) (wrap_u64 (by omega) (by omega)) .u64) <| .a 7 1 <|
          .p (does_i (w * 4294967296 + d - k * y) ((show (IntKind.wrap .u64 ((IntKind.wrap .u64 ((IntKind.wrap .u64 (w * 4294967296)) + d)) - (IntKind.wrap .u64 (k * y)))) = (w * 4294967296 + d - k * y) from (by simp only [IntKind.wrap_u64]; omega))) .u64) <| .a 1 1 <|
          .p (does_int (n' := ((w * 4294967296 + d - k * y) / 2 ^ (Sp.lz v).toNat)) (does_shr (t := 25) (t2 := 47) (x := .tmp 132) (y := .tmp 133) (k := .u64) (k2 := .u64) (a := (w * 4294967296 + d - k * y)) (b := (Sp.lz v)) (by kernel_rfl) (by kernel_rfl) (by kernel_rfl) (by omega) (by show _ ≤ 64; omega)) ((show (Int.fdiv (w * 4294967296 + d - k * y) (2 ^ (Sp.lz v).toNat)) = ((w * 4294967296 + d - k * y) / 2 ^ (Sp.lz v).toNat) from Sp.ufd (Int.pow_nonneg (by decide))))) <|
          .a 2 1 <| .nil _ _) ?_
        refine aw_w [(6, .int .u64 ((q * 4294967296) + k)), (7, .int .u64 ((w * 4294967296 + d - k * y) / 2 ^ (Sp.lz v).toNat))] [] ?_
        refine aw_rt ?_
        exact en_ret [.int .u64 ((q * 4294967296) + k), .int .u64 ((w * 4294967296 + d - k * y) / 2 ^ (Sp.lz v).toNat)] (show (.tuple #[.int .u64 ((q * 4294967296) + k), .int .u64 ((w * 4294967296 + d - k * y) / 2 ^ (Sp.lz v).toNat)] : Value) = (.tuple #[.int .u64 ((h * 18446744073709551616 + l) / v), .int .u64 ((h * 18446744073709551616 + l) % v)]) from (congrArg (fun z : List Value => Value.tuple z.toArray) (lcons (congrArg (Value.int .u64) (show ((q * 4294967296) + k) = ((h * 18446744073709551616 + l) / v) from by (first | exact (Sp.div64_end (h := h) (l := l) (v := v) (by omega) hy ⟨u, c, hN, hw⟩ hF2.1 hF2.2.1).1 | exact (Sp.div64_end (h := h) (l := l) (v := v) (by omega) hy ⟨u, c, hN, hw⟩ hF2.1 hF2.2.1).2 | (rw [show h = 0 by omega]; simp)))) (lcons (congrArg (Value.int .u64) (show ((w * 4294967296 + d - k * y) / 2 ^ (Sp.lz v).toNat) = ((h * 18446744073709551616 + l) % v) from by (first | exact (Sp.div64_end (h := h) (l := l) (v := v) (by omega) hy ⟨u, c, hN, hw⟩ hF2.1 hF2.2.1).1 | exact (Sp.div64_end (h := h) (l := l) (v := v) (by omega) hy ⟨u, c, hN, hw⟩ hF2.1 hF2.2.1).2 | (rw [show h = 0 by omega]; simp)))) rfl))))
      · skip
        refine al_round ?_
        refine aw_sq 8388598 8388599 ?_
        rcases Bool.eq_false_or_eq_true (decide (k ≥ 4294967296)) with h2 | h2
        · have h2p : ((k ≥ 4294967296)) := by first | (simpa using h2) | (have h2q := h2; simp at h2q; omega) | (have h2q := bx1 h2; simp at h2q; omega)
          refine aw_p 16777197 (
            .a 1 1 <| .p (does_b true (h2)) <| .a 10 1 <| .nil _ _) ?_
          refine aw_tr 33554394 ?_
          refine aw_sk ?_
          refine then_normal ?_
          refine aw_bl 3 16777199 ?_
          refine aw_p 33554399 (
            .a 1 1 <| .p (does_i (k - 1) (wrap_u64 (by have gn := gk.next (by omega); have := gn.q0; omega) (by omega)) .u64) <| .a 1 1 <| .nil _ _) ?_
          refine aw_w [(2, .int .u64 y), (6, .int .u64 0), (7, .int .u64 0), (8, .int .u64 (Sp.lz v)), (9, .int .u64 a), (10, .int .u64 b), (14, .int .u64 d), (15, .int .u64 q), (16, .int .u64 t), (17, .int .u64 w), (18, .int .u64 (k - 1)), (113, .bool true)] [] ?_
          refine aw_p 67108799 (
            .a 2 1 <| .p (does_i (t + a) (wrap_u64 (by omega) (by omega)) .u64) <| .a 1 1 <| .nil _ _) ?_
          refine aw_p 134217599 (
            .a 2 1 <| .nil _ _) ?_
          refine aw_cd 268435198 268435199 (decide ((t + a) ≥ 4294967296)) (fun h3 => ?_) (fun h3 => ?_)
          · have h3p : (((t + a) ≥ 4294967296)) := by first | (simpa using h3) | (have h3q := h3; simp at h3q; omega) | (have h3q := bx1 h3; simp at h3q; omega)
            refine aw_ex 2 ?_
            refine block_other (by decide) ?_
            refine then_exit ?_
            refine block_exit ?_
            refine then_normal ?_
            refine aw_w [(2, .int .u64 y), (6, .int .u64 0), (7, .int .u64 0), (8, .int .u64 (Sp.lz v)), (9, .int .u64 a), (10, .int .u64 b), (14, .int .u64 d), (15, .int .u64 q), (16, .int .u64 (t + a)), (17, .int .u64 w), (18, .int .u64 (k - 1))] [] ?_
            exact K2 ((k - 1), (t + a)) (show (k - 1) * y ≤ w * 4294967296 + d ∧ w * 4294967296 + d < (k - 1) * y + y ∧ 0 ≤ (k - 1) ∧ (k - 1) ≤ 4294967295 from by (first | (have gd := gk.done (.inl ⟨by omega, by omega⟩); have gs := gk.small gd.1; exact ⟨gd.1, gd.2, gk.q0, gs⟩) | (have gn := gk.next (by omega); have gd := gn.done (.inr ⟨by omega, by omega⟩); have gs := gn.small gd.1; exact ⟨gd.1, gd.2, gn.q0, gs⟩)))
          · have h3p : ¬ (((t + a) ≥ 4294967296)) := by first | (simpa using h3) | (have h3q := h3; simp at h3q; omega) | (have h3q := bx2 h3; simp at h3q; omega)
            refine aw_sk ?_
            refine block_normal ?_
            refine then_normal ?_
            refine al_w [(2, .int .u64 y), (6, .int .u64 0), (7, .int .u64 0), (8, .int .u64 (Sp.lz v)), (9, .int .u64 a), (10, .int .u64 b), (14, .int .u64 d), (15, .int .u64 q), (16, .int .u64 (t + a)), (17, .int .u64 w), (18, .int .u64 (k - 1))] [] ?_
            exact ih2 ((k - 1), (t + a)) (show (Sp.Guess w y a b d (k - 1) (t + a)) ∧ ((t + a) ≤ 4294967295) from ⟨by (have gn := gk.next (by omega); exact gn), by omega⟩) (show (k - 1).toNat < k.toNat from by (have gn := gk.next (by omega); have := gn.q0; omega))
        · have h2p : ¬ ((k ≥ 4294967296)) := by first | (simpa using h2) | (have h2q := h2; simp at h2q; omega) | (have h2q := bx2 h2; simp at h2q; omega)
          refine aw_p 16777197 (
            .a 1 1 <| .p (does_b false (h2)) <| .a 3 1 <| .p (does_i (k * b) (wrap_u64 (by omega) (by omega)) .u64) <| .a 1 1 <| .p (does_i (4294967296 * t) (wrap_u64 (by omega) (by omega)) .u64) <| .a 1 1 <| .p (does_i ((4294967296 * t) + d) (wrap_u64 (by omega) (by omega)) .u64) <| .a 2 1 <| .nil _ _) ?_
          refine aw_cd 33554394 33554395 (decide ((k * b) > ((4294967296 * t) + d))) (fun h4 => ?_) (fun h4 => ?_)
          · have h4p : (((k * b) > ((4294967296 * t) + d))) := by first | (simpa using h4) | (have h4q := h4; simp at h4q; omega) | (have h4q := bx1 h4; simp at h4q; omega)
            refine aw_sk ?_
            refine then_normal ?_
            refine aw_bl 3 16777199 ?_
            refine aw_p 33554399 (
              .a 1 1 <| .p (does_i (k - 1) (wrap_u64 (by have gn := gk.next (by omega); have := gn.q0; omega) (by omega)) .u64) <| .a 1 1 <| .nil _ _) ?_
            refine aw_w [(2, .int .u64 y), (6, .int .u64 0), (7, .int .u64 0), (8, .int .u64 (Sp.lz v)), (9, .int .u64 a), (10, .int .u64 b), (14, .int .u64 d), (15, .int .u64 q), (16, .int .u64 t), (17, .int .u64 w), (18, .int .u64 (k - 1)), (113, .bool (decide ((k * b) > ((4294967296 * t) + d))))] [] ?_
            refine aw_p 67108799 (
              .a 2 1 <| .p (does_i (t + a) (wrap_u64 (by omega) (by omega)) .u64) <| .a 1 1 <| .nil _ _) ?_
            refine aw_p 134217599 (
              .a 2 1 <| .nil _ _) ?_
            refine aw_cd 268435198 268435199 (decide ((t + a) ≥ 4294967296)) (fun h5 => ?_) (fun h5 => ?_)
            · have h5p : (((t + a) ≥ 4294967296)) := by first | (simpa using h5) | (have h5q := h5; simp at h5q; omega) | (have h5q := bx1 h5; simp at h5q; omega)
              refine aw_ex 2 ?_
              refine block_other (by decide) ?_
              refine then_exit ?_
              refine block_exit ?_
              refine then_normal ?_
              refine aw_w [(2, .int .u64 y), (6, .int .u64 0), (7, .int .u64 0), (8, .int .u64 (Sp.lz v)), (9, .int .u64 a), (10, .int .u64 b), (14, .int .u64 d), (15, .int .u64 q), (16, .int .u64 (t + a)), (17, .int .u64 w), (18, .int .u64 (k - 1))] [] ?_
              exact K2 ((k - 1), (t + a)) (show (k - 1) * y ≤ w * 4294967296 + d ∧ w * 4294967296 + d < (k - 1) * y + y ∧ 0 ≤ (k - 1) ∧ (k - 1) ≤ 4294967295 from by (first | (have gd := gk.done (.inl ⟨by omega, by omega⟩); have gs := gk.small gd.1; exact ⟨gd.1, gd.2, gk.q0, gs⟩) | (have gn := gk.next (by omega); have gd := gn.done (.inr ⟨by omega, by omega⟩); have gs := gn.small gd.1; exact ⟨gd.1, gd.2, gn.q0, gs⟩)))
            · have h5p : ¬ (((t + a) ≥ 4294967296)) := by first | (simpa using h5) | (have h5q := h5; simp at h5q; omega) | (have h5q := bx2 h5; simp at h5q; omega)
              refine aw_sk ?_
              refine block_normal ?_
              refine then_normal ?_
              refine al_w [(2, .int .u64 y), (6, .int .u64 0), (7, .int .u64 0), (8, .int .u64 (Sp.lz v)), (9, .int .u64 a), (10, .int .u64 b), (14, .int .u64 d), (15, .int .u64 q), (16, .int .u64 (t + a)), (17, .int .u64 w), (18, .int .u64 (k - 1))] [] ?_
              exact ih2 ((k - 1), (t + a)) (show (Sp.Guess w y a b d (k - 1) (t + a)) ∧ ((t + a) ≤ 4294967295) from ⟨by (have gn := gk.next (by omega); exact gn), by omega⟩) (show (k - 1).toNat < k.toNat from by (have gn := gk.next (by omega); have := gn.q0; omega))
          · have h4p : ¬ (((k * b) > ((4294967296 * t) + d))) := by first | (simpa using h4) | (have h4q := h4; simp at h4q; omega) | (have h4q := bx2 h4; simp at h4q; omega)
            refine aw_ex 2 ?_
            refine then_exit ?_
            refine then_exit ?_
            refine block_exit ?_
            refine then_normal ?_
            refine aw_w [(2, .int .u64 y), (6, .int .u64 0), (7, .int .u64 0), (8, .int .u64 (Sp.lz v)), (9, .int .u64 a), (10, .int .u64 b), (14, .int .u64 d), (15, .int .u64 q), (16, .int .u64 t), (17, .int .u64 w), (18, .int .u64 k)] [] ?_
            exact K2 (k, t) (show k * y ≤ w * 4294967296 + d ∧ w * 4294967296 + d < k * y + y ∧ 0 ≤ k ∧ k ≤ 4294967295 from by (first | (have gd := gk.done (.inl ⟨by omega, by omega⟩); have gs := gk.small gd.1; exact ⟨gd.1, gd.2, gk.q0, gs⟩) | (have gn := gk.next (by omega); have gd := gn.done (.inr ⟨by omega, by omega⟩); have gs := gn.small gd.1; exact ⟨gd.1, gd.2, gn.q0, gs⟩)))
    · skip
      refine al_round ?_
      refine aw_sq 524278 524279 ?_
      rcases Bool.eq_false_or_eq_true (decide (q ≥ 4294967296)) with h6 | h6
      · have h6p : ((q ≥ 4294967296)) := by first | (simpa using h6) | (have h6q := h6; simp at h6q; omega) | (have h6q := bx1 h6; simp at h6q; omega)
        refine aw_p 1048557 (
          .a 1 1 <| .p (does_b true (h6)) <| .a 10 1 <| .nil _ _) ?_
        refine aw_tr 2097114 ?_
        refine aw_sk ?_
        refine then_normal ?_
        refine aw_bl 1 1048559 ?_
        refine aw_p 2097119 (
          .a 1 1 <| .p (does_i (q - 1) (wrap_u64 (by have gn := gq.next (by omega); have := gn.q0; omega) (by omega)) .u64) <| .a 1 1 <| .nil _ _) ?_
        refine aw_w [(2, .int .u64 y), (6, .int .u64 0), (7, .int .u64 0), (8, .int .u64 (Sp.lz v)), (9, .int .u64 a), (10, .int .u64 b), (11, .int .u64 u), (13, .int .u64 c), (14, .int .u64 d), (15, .int .u64 (q - 1)), (16, .int .u64 r), (78, .bool true)] [] ?_
        refine aw_p 4194239 (
          .a 2 1 <| .p (does_i (r + a) (wrap_u64 (by omega) (by omega)) .u64) <| .a 1 1 <| .nil _ _) ?_
        refine aw_p 8388479 (
          .a 2 1 <| .nil _ _) ?_
        refine aw_cd 16776958 16776959 (decide ((r + a) ≥ 4294967296)) (fun h7 => ?_) (fun h7 => ?_)
        · have h7p : (((r + a) ≥ 4294967296)) := by first | (simpa using h7) | (have h7q := h7; simp at h7q; omega) | (have h7q := bx1 h7; simp at h7q; omega)
          refine aw_ex 0 ?_
          refine block_other (by decide) ?_
          refine then_exit ?_
          refine block_exit ?_
          refine then_normal ?_
          refine aw_w [(2, .int .u64 y), (6, .int .u64 0), (7, .int .u64 0), (8, .int .u64 (Sp.lz v)), (9, .int .u64 a), (10, .int .u64 b), (11, .int .u64 u), (13, .int .u64 c), (14, .int .u64 d), (15, .int .u64 (q - 1)), (16, .int .u64 (r + a))] [] ?_
          exact K1 ((q - 1), (r + a)) (show (q - 1) * y ≤ u * 4294967296 + c ∧ u * 4294967296 + c < (q - 1) * y + y ∧ 0 ≤ (q - 1) ∧ (q - 1) ≤ 4294967295 from by (first | (have gd := gq.done (.inl ⟨by omega, by omega⟩); have gs := gq.small gd.1; exact ⟨gd.1, gd.2, gq.q0, gs⟩) | (have gn := gq.next (by omega); have gd := gn.done (.inr ⟨by omega, by omega⟩); have gs := gn.small gd.1; exact ⟨gd.1, gd.2, gn.q0, gs⟩)))
        · have h7p : ¬ (((r + a) ≥ 4294967296)) := by first | (simpa using h7) | (have h7q := h7; simp at h7q; omega) | (have h7q := bx2 h7; simp at h7q; omega)
          refine aw_sk ?_
          refine block_normal ?_
          refine then_normal ?_
          refine al_w [(2, .int .u64 y), (6, .int .u64 0), (7, .int .u64 0), (8, .int .u64 (Sp.lz v)), (9, .int .u64 a), (10, .int .u64 b), (11, .int .u64 u), (13, .int .u64 c), (14, .int .u64 d), (15, .int .u64 (q - 1)), (16, .int .u64 (r + a))] [] ?_
          exact ih1 ((q - 1), (r + a)) (show (Sp.Guess u y a b c (q - 1) (r + a)) ∧ ((r + a) ≤ 4294967295) from ⟨by (have gn := gq.next (by omega); exact gn), by omega⟩) (show (q - 1).toNat < q.toNat from by (have gn := gq.next (by omega); have := gn.q0; omega))
      · have h6p : ¬ ((q ≥ 4294967296)) := by first | (simpa using h6) | (have h6q := h6; simp at h6q; omega) | (have h6q := bx2 h6; simp at h6q; omega)
        refine aw_p 1048557 (
          .a 1 1 <| .p (does_b false (h6)) <| .a 3 1 <| .p (does_i (q * b) (wrap_u64 (by omega) (by omega)) .u64) <| .a 1 1 <| .p (does_i (4294967296 * r) (wrap_u64 (by omega) (by omega)) .u64) <| .a 1 1 <| .p (does_i ((4294967296 * r) + c) (wrap_u64 (by omega) (by omega)) .u64) <| .a 2 1 <| .nil _ _) ?_
        refine aw_cd 2097114 2097115 (decide ((q * b) > ((4294967296 * r) + c))) (fun h8 => ?_) (fun h8 => ?_)
        · have h8p : (((q * b) > ((4294967296 * r) + c))) := by first | (simpa using h8) | (have h8q := h8; simp at h8q; omega) | (have h8q := bx1 h8; simp at h8q; omega)
          refine aw_sk ?_
          refine then_normal ?_
          refine aw_bl 1 1048559 ?_
          refine aw_p 2097119 (
            .a 1 1 <| .p (does_i (q - 1) (wrap_u64 (by have gn := gq.next (by omega); have := gn.q0; omega) (by omega)) .u64) <| .a 1 1 <| .nil _ _) ?_
          refine aw_w [(2, .int .u64 y), (6, .int .u64 0), (7, .int .u64 0), (8, .int .u64 (Sp.lz v)), (9, .int .u64 a), (10, .int .u64 b), (11, .int .u64 u), (13, .int .u64 c), (14, .int .u64 d), (15, .int .u64 (q - 1)), (16, .int .u64 r), (78, .bool (decide ((q * b) > ((4294967296 * r) + c))))] [] ?_
          refine aw_p 4194239 (
            .a 2 1 <| .p (does_i (r + a) (wrap_u64 (by omega) (by omega)) .u64) <| .a 1 1 <| .nil _ _) ?_
          refine aw_p 8388479 (
            .a 2 1 <| .nil _ _) ?_
          refine aw_cd 16776958 16776959 (decide ((r + a) ≥ 4294967296)) (fun h9 => ?_) (fun h9 => ?_)
          · have h9p : (((r + a) ≥ 4294967296)) := by first | (simpa using h9) | (have h9q := h9; simp at h9q; omega) | (have h9q := bx1 h9; simp at h9q; omega)
            refine aw_ex 0 ?_
            refine block_other (by decide) ?_
            refine then_exit ?_
            refine block_exit ?_
            refine then_normal ?_
            refine aw_w [(2, .int .u64 y), (6, .int .u64 0), (7, .int .u64 0), (8, .int .u64 (Sp.lz v)), (9, .int .u64 a), (10, .int .u64 b), (11, .int .u64 u), (13, .int .u64 c), (14, .int .u64 d), (15, .int .u64 (q - 1)), (16, .int .u64 (r + a))] [] ?_
            exact K1 ((q - 1), (r + a)) (show (q - 1) * y ≤ u * 4294967296 + c ∧ u * 4294967296 + c < (q - 1) * y + y ∧ 0 ≤ (q - 1) ∧ (q - 1) ≤ 4294967295 from by (first | (have gd := gq.done (.inl ⟨by omega, by omega⟩); have gs := gq.small gd.1; exact ⟨gd.1, gd.2, gq.q0, gs⟩) | (have gn := gq.next (by omega); have gd := gn.done (.inr ⟨by omega, by omega⟩); have gs := gn.small gd.1; exact ⟨gd.1, gd.2, gn.q0, gs⟩)))
          · have h9p : ¬ (((r + a) ≥ 4294967296)) := by first | (simpa using h9) | (have h9q := h9; simp at h9q; omega) | (have h9q := bx2 h9; simp at h9q; omega)
            refine aw_sk ?_
            refine block_normal ?_
            refine then_normal ?_
            refine al_w [(2, .int .u64 y), (6, .int .u64 0), (7, .int .u64 0), (8, .int .u64 (Sp.lz v)), (9, .int .u64 a), (10, .int .u64 b), (11, .int .u64 u), (13, .int .u64 c), (14, .int .u64 d), (15, .int .u64 (q - 1)), (16, .int .u64 (r + a))] [] ?_
            exact ih1 ((q - 1), (r + a)) (show (Sp.Guess u y a b c (q - 1) (r + a)) ∧ ((r + a) ≤ 4294967295) from ⟨by (have gn := gq.next (by omega); exact gn), by omega⟩) (show (q - 1).toNat < q.toNat from by (have gn := gq.next (by omega); have := gn.q0; omega))
        · have h8p : ¬ (((q * b) > ((4294967296 * r) + c))) := by first | (simpa using h8) | (have h8q := h8; simp at h8q; omega) | (have h8q := bx2 h8; simp at h8q; omega)
          refine aw_ex 0 ?_
          refine then_exit ?_
          refine then_exit ?_
          refine block_exit ?_
          refine then_normal ?_
          refine aw_w [(2, .int .u64 y), (6, .int .u64 0), (7, .int .u64 0), (8, .int .u64 (Sp.lz v)), (9, .int .u64 a), (10, .int .u64 b), (11, .int .u64 u), (13, .int .u64 c), (14, .int .u64 d), (15, .int .u64 q), (16, .int .u64 r)] [] ?_
          exact K1 (q, r) (show q * y ≤ u * 4294967296 + c ∧ u * 4294967296 + c < q * y + y ∧ 0 ≤ q ∧ q ≤ 4294967295 from by (first | (have gd := gq.done (.inl ⟨by omega, by omega⟩); have gs := gq.small gd.1; exact ⟨gd.1, gd.2, gq.q0, gs⟩) | (have gn := gq.next (by omega); have gd := gn.done (.inr ⟨by omega, by omega⟩); have gs := gn.small gd.1; exact ⟨gd.1, gd.2, gn.q0, gs⟩)))


end Go.Proofs.YtngmegnaohmapaaDoor.Am
