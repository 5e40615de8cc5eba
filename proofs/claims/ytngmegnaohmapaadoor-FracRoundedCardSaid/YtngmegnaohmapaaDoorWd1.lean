/-
  The walks of numbers of 128 bits, first part.
-/
import Derived.Test.YtngmegnaohmapaaDoorProg
import Derived.Test.YtngmegnaohmapaaDoorAm16
import Derived.Test.YtngmegnaohmapaaDoorLn2
import Derived.Test.YtngmegnaohmapaaDoorNc7
namespace Go.Proofs.YtngmegnaohmapaaDoor.Am
open Go Go.Proofs
set_option maxRecDepth 100000
set_option maxHeartbeats 4000000
set_option linter.unusedVariables false
set_option linter.unusedSimpArgs false

theorem mul64_ok (m n : Int) (h0 : 0 ≤ m) (h1 : m ≤ 18446744073709551615) (h2 : 0 ≤ n) (h3 : n ≤ 18446744073709551615) :
    AC Tryd.prog 55 0 ([.int .u64 m, .int .u64 n]) [] (.tuple #[.int .u64 (m * n / 18446744073709551616), .int .u64 (m * n % 18446744073709551616)]) [] := by
  obtain ⟨p0, p1, p2, p3, pe⟩ := Sp.mul64_parts h0 h1 h2 h3
  refine ac_in Tryd.func55 (fun w0 W pin => ?_)
  refine aw_p 3 (
    .a 2 1 <| .nil _ _) ?_
  refine aw_p 7 (
    .a 1 1 <| .p (does_i (m % 4294967296) (Sp.and_low h0 h1) .u64) <| .a 1 1 <| .nil _ _) ?_
  refine aw_p 15 (
    .a 1 1 <| .p (does_i (m / 4294967296) (Sp.ufd (by decide)) .u64) <| .a 1 1 <| .nil _ _) ?_
  refine aw_p 31 (
    .a 1 1 <| .p (does_i (n % 4294967296) (Sp.and_low h2 h3) .u64) <| .a 1 1 <| .nil _ _) ?_
  refine aw_p 63 (
    .a 1 1 <| .p (does_i (n / 4294967296) (Sp.ufd (by decide)) .u64) <| .a 1 1 <| .nil _ _) ?_
  refine aw_p 127 (
    .a 2 1 <| .p (does_i ((m % 4294967296) * (n % 4294967296)) (wrap_u64 (by omega) (by omega)) .u64) <| .a 1 1 <| .nil _ _) ?_
  refine aw_p 255 (
    .a 2 1 <| .p (does_i ((m / 4294967296) * (n % 4294967296)) (wrap_u64 (by omega) (by omega)) .u64) <| .a 1 1 <| .p (does_i (((m % 4294967296) * (n % 4294967296)) / 4294967296) (Sp.ufd (by decide)) .u64) <|
    .p (does_i (((m / 4294967296) * (n % 4294967296)) + (((m % 4294967296) * (n % 4294967296)) / 4294967296)) (wrap_u64 (by omega) (by omega)) .u64) <| .a 1 1 <| .nil _ _) ?_
  refine aw_w [(0, .int .u64 m), (1, .int .u64 n), (4, .int .u64 0), (5, .int .u64 0), (6, .int .u64 (m % 4294967296)), (7, .int .u64 (m / 4294967296)), (9, .int .u64 (n / 4294967296)), (11, .int .u64 (((m / 4294967296) * (n % 4294967296)) + (((m % 4294967296) * (n % 4294967296)) / 4294967296)))] [] ?_
  refine aw_p 511 (
    .a 1 1 <|
    .p (does_i ((((m / 4294967296) * (n % 4294967296)) + (((m % 4294967296) * (n % 4294967296)) / 4294967296)) % 4294967296) ((show (IntKind.wrap .u64 ((BitVec.ofInt 64 (((m / 4294967296) * (n % 4294967296)) + (((m % 4294967296) * (n % 4294967296)) / 4294967296)) &&& BitVec.ofInt 64 4294967295).toNat : Int)) = ((((m / 4294967296) * (n % 4294967296)) + (((m % 4294967296) * (n % 4294967296)) / 4294967296)) % 4294967296) from Sp.and_low (by omega) (by omega))) .u64) <|
    .a 1 1 <| .nil _ _) ?_
  refine aw_p 1023 (
    .a 1 1 <| .p (does_i ((((m / 4294967296) * (n % 4294967296)) + (((m % 4294967296) * (n % 4294967296)) / 4294967296)) / 4294967296) (Sp.ufd (by decide)) .u64) <| .a 1 1 <| .nil _ _) ?_
  refine aw_p 2047 (
    .a 3 1 <| .p (does_i ((m % 4294967296) * (n / 4294967296)) (wrap_u64 (by omega) (by omega)) .u64) <|
    .p (does_i (((((m / 4294967296) * (n % 4294967296)) + (((m % 4294967296) * (n % 4294967296)) / 4294967296)) % 4294967296) + ((m % 4294967296) * (n / 4294967296))) (wrap_u64 (by omega) (by omega)) .u64) <| .a 1 1 <| .nil _ _) ?_
  refine aw_p 4095 (
    .a 2 1 <| .p (does_i ((m / 4294967296) * (n / 4294967296)) (wrap_u64 (by omega) (by omega)) .u64) <| .a 1 1 <|
    .p (does_i (((m / 4294967296) * (n / 4294967296)) + ((((m / 4294967296) * (n % 4294967296)) + (((m % 4294967296) * (n % 4294967296)) / 4294967296)) / 4294967296)) (wrap_u64 (by omega) (by omega)) .u64) <| .a 1 1 <|
    .p (does_i ((((((m / 4294967296) * (n % 4294967296)) + (((m % 4294967296) * (n % 4294967296)) / 4294967296)) % 4294967296) + ((m % 4294967296) * (n / 4294967296))) / 4294967296) (Sp.ufd (by decide)) .u64) <|
    .p (does_i ((((m / 4294967296) * (n / 4294967296)) + ((((m / 4294967296) * (n % 4294967296)) + (((m % 4294967296) * (n % 4294967296)) / 4294967296)) / 4294967296)) + ((((((m / 4294967296) * (n % 4294967296)) + (((m % 4294967296) * (n % 4294967296)) / 4294967296)) % 4294967296) + ((m % 4294967296) * (n / 4294967296))) / 4294967296)) (wrap_u64 (by omega) (by omega)) .u64) <|
    .a 1 1 <| .nil _ _) ?_
  refine aw_p 8191 (
    .a 2 1 <| .p (does_i (m * n % 18446744073709551616) (Sp.ulow) .u64) <| .a 1 1 <| .nil _ _) ?_
  refine aw_w [(4, .int .u64 ((((m / 4294967296) * (n / 4294967296)) + ((((m / 4294967296) * (n % 4294967296)) + (((m % 4294967296) * (n % 4294967296)) / 4294967296)) / 4294967296)) + ((((((m / 4294967296) * (n % 4294967296)) + (((m % 4294967296) * (n % 4294967296)) / 4294967296)) % 4294967296) + ((m % 4294967296) * (n / 4294967296))) / 4294967296))), (5, .int .u64 (m * n % 18446744073709551616))] [] ?_
  refine aw_rt ?_
  exact en_ret [.int .u64 ((((m / 4294967296) * (n / 4294967296)) + ((((m / 4294967296) * (n % 4294967296)) + (((m % 4294967296) * (n % 4294967296)) / 4294967296)) / 4294967296)) + ((((((m / 4294967296) * (n % 4294967296)) + (((m % 4294967296) * (n % 4294967296)) / 4294967296)) % 4294967296) + ((m % 4294967296) * (n / 4294967296))) / 4294967296)), .int .u64 (m * n % 18446744073709551616)] (show (.tuple #[.int .u64 ((((m / 4294967296) * (n / 4294967296)) + ((((m / 4294967296) * (n % 4294967296)) + (((m % 4294967296) * (n % 4294967296)) / 4294967296)) / 4294967296)) + ((((((m / 4294967296) * (n % 4294967296)) + (((m % 4294967296) * (n % 4294967296)) / 4294967296)) % 4294967296) + ((m % 4294967296) * (n / 4294967296))) / 4294967296)), .int .u64 (m * n % 18446744073709551616)] : Value) = (.tuple #[.int .u64 (m * n / 18446744073709551616), .int .u64 (m * n % 18446744073709551616)]) from (congrArg (fun z : List Value => Value.tuple z.toArray) (lcons (congrArg (Value.int .u64) (show ((((m / 4294967296) * (n / 4294967296)) + ((((m / 4294967296) * (n % 4294967296)) + (((m % 4294967296) * (n % 4294967296)) / 4294967296)) / 4294967296)) + ((((((m / 4294967296) * (n % 4294967296)) + (((m % 4294967296) * (n % 4294967296)) / 4294967296)) % 4294967296) + ((m % 4294967296) * (n / 4294967296))) / 4294967296)) = (m * n / 18446744073709551616) from by (rw [pe]; omega))) (lcons rfl rfl))))

theorem wof_ok (n : Int) (zln : -9223372036854775808 ≤ n) (zun : n ≤ 9223372036854775807) :
    AC Tryd.prog 63 0 ([.int .i64 n]) [] (.agg #[.int .i64 (Sp.wh n), .int .u64 (Sp.wl n)]) [] := by
  refine ac_in Tryd.func63 (fun w0 W pin => ?_)
  refine aw_p 3 (
    .a 1 1 <| .nil _ _) ?_
  refine aw_p 7 (
    .a 6 2 <| .nil _ _) ?_
  refine aw_rt ?_
  exact en_ret [.agg #[.int .i64 (Int.fdiv n 9223372036854775808), .int .u64 (IntKind.wrap .u64 n)]] (show (.agg #[.int .i64 (Int.fdiv n 9223372036854775808), .int .u64 (IntKind.wrap .u64 n)] : Value) = (.agg #[.int .i64 (Sp.wh n), .int .u64 (Sp.wl n)]) from (congrArg (fun z : List Value => Value.agg z.toArray) (lcons (congrArg (Value.int .i64) (show (Int.fdiv n 9223372036854775808) = (Sp.wh n) from by (first | (simp only [Sp.wh, Sp.s64]; rw [Int.fdiv_eq_ediv_of_nonneg _ (by decide)]; omega) | (simp only [Sp.wl, IntKind.wrap_u64])))) (lcons (congrArg (Value.int .u64) (show (IntKind.wrap .u64 n) = (Sp.wl n) from by (first | (simp only [Sp.wh, Sp.s64]; rw [Int.fdiv_eq_ediv_of_nonneg _ (by decide)]; omega) | (simp only [Sp.wl, IntKind.wrap_u64])))) rfl))))

theorem wmul_ok (a b : Int) (zla : -9223372036854775808 ≤ a) (zua : a ≤ 9223372036854775807) (zlb : -9223372036854775808 ≤ b) (zub : b ≤ 9223372036854775807) :
    AC Tryd.prog 40 0 ([.int .i64 a, .int .i64 b]) [] (.agg #[.int .i64 (Sp.wh (a * b)), .int .u64 (Sp.wl (a * b))]) [] := by
  obtain ⟨pe, pn⟩ := Sp.ab_parts zla zua zlb zub
  refine ac_in Tryd.func40 (fun w0 W pin => ?_)
  refine aw_p 3 (
    .a 1 1 <| .nil _ _) ?_
  refine aw_p 7 (
    .a 1 2 <| .p (does_i (a % 18446744073709551616) (Sp.ulow) .u64) <| .a 1 2 <| .p (does_i (b % 18446744073709551616) (Sp.ulow) .u64) <| .p (does_c (mul64_ok (a % 18446744073709551616) (b % 18446744073709551616) (by omega) (by omega) (by omega) (by omega))) <| .a 5 2 <| .nil _ _) ?_
  refine aw_sq 14 15 ?_
  refine aw_p 29 (
    .a 2 2 <| .nil _ _) ?_
  refine aw_cd 58 59 (decide (a < 0)) (fun h1 => ?_) (fun h1 => ?_)
  · have h1p : ((a < 0)) := by first | (simpa using h1) | (have h1q := h1; simp at h1q; omega) | (have h1q := bx1 h1; simp at h1q; omega)
    refine aw_p1 (
      .a 2 2 <| .p (does_i (b % 18446744073709551616) (Sp.ulow) .u64) <| .p (does_i ((((a % 18446744073709551616) * (b % 18446744073709551616) / 18446744073709551616) - (b % 18446744073709551616)) % 18446744073709551616) (Sp.ulow) .u64) <| .a 1 2 <| .nil _ _) ?_
    refine then_normal ?_
    refine aw_sq 30 31 ?_
    refine aw_p 61 (
      .a 2 2 <| .nil _ _) ?_
    refine aw_cd 122 123 (decide (b < 0)) (fun h2 => ?_) (fun h2 => ?_)
    · have h2p : ((b < 0)) := by first | (simpa using h2) | (have h2q := h2; simp at h2q; omega) | (have h2q := bx1 h2; simp at h2q; omega)
      refine aw_p1 (
        .a 2 2 <| .p (does_i (a % 18446744073709551616) (Sp.ulow) .u64) <| .p (does_i ((((((a % 18446744073709551616) * (b % 18446744073709551616) / 18446744073709551616) - (b % 18446744073709551616)) % 18446744073709551616) - (a % 18446744073709551616)) % 18446744073709551616) (Sp.ulow) .u64) <| .a 1 2 <| .nil _ _) ?_
      refine then_normal ?_
      refine aw_p 63 (
        .a 1 2 <| .p (does_i (Sp.s64 ((((((a % 18446744073709551616) * (b % 18446744073709551616) / 18446744073709551616) - (b % 18446744073709551616)) % 18446744073709551616) - (a % 18446744073709551616)) % 18446744073709551616)) (Sp.s64_any _) .i64) <| .a 3 2 <| .nil _ _) ?_
      refine aw_w [(4, .pointer (some ⟨1, 0, none⟩))] [(1, ⟨[.int .i64 (Sp.s64 ((((((a % 18446744073709551616) * (b % 18446744073709551616) / 18446744073709551616) - (b % 18446744073709551616)) % 18446744073709551616) - (a % 18446744073709551616)) % 18446744073709551616)), .int .u64 ((a % 18446744073709551616) * (b % 18446744073709551616) % 18446744073709551616)], 68, true, 2⟩)] ?_
      refine aw_rt ?_
      exact en_ret [.agg #[.int .i64 (Sp.s64 ((((((a % 18446744073709551616) * (b % 18446744073709551616) / 18446744073709551616) - (b % 18446744073709551616)) % 18446744073709551616) - (a % 18446744073709551616)) % 18446744073709551616)), .int .u64 ((a % 18446744073709551616) * (b % 18446744073709551616) % 18446744073709551616)]] (show (.agg #[.int .i64 (Sp.s64 ((((((a % 18446744073709551616) * (b % 18446744073709551616) / 18446744073709551616) - (b % 18446744073709551616)) % 18446744073709551616) - (a % 18446744073709551616)) % 18446744073709551616)), .int .u64 ((a % 18446744073709551616) * (b % 18446744073709551616) % 18446744073709551616)] : Value) = (.agg #[.int .i64 (Sp.wh (a * b)), .int .u64 (Sp.wl (a * b))]) from (congrArg (fun z : List Value => Value.agg z.toArray) (lcons (congrArg (Value.int .i64) (show (Sp.s64 ((((((a % 18446744073709551616) * (b % 18446744073709551616) / 18446744073709551616) - (b % 18446744073709551616)) % 18446744073709551616) - (a % 18446744073709551616)) % 18446744073709551616)) = (Sp.wh (a * b)) from by (simp only [Sp.wh, Sp.wl, Sp.s64]; rw [pe]; (repeat' split) <;> omega))) (lcons (congrArg (Value.int .u64) (show ((a % 18446744073709551616) * (b % 18446744073709551616) % 18446744073709551616) = (Sp.wl (a * b)) from by (simp only [Sp.wh, Sp.wl, Sp.s64]; rw [pe]; (repeat' split) <;> omega))) rfl))))
    · have h2p : ¬ ((b < 0)) := by first | (simpa using h2) | (have h2q := h2; simp at h2q; omega) | (have h2q := bx2 h2; simp at h2q; omega)
      refine aw_sk ?_
      refine then_normal ?_
      refine aw_p 63 (
        .a 1 2 <| .p (does_i (Sp.s64 ((((a % 18446744073709551616) * (b % 18446744073709551616) / 18446744073709551616) - (b % 18446744073709551616)) % 18446744073709551616)) (Sp.s64_any _) .i64) <| .a 3 2 <| .nil _ _) ?_
      refine aw_w [(4, .pointer (some ⟨1, 0, none⟩))] [(1, ⟨[.int .i64 (Sp.s64 ((((a % 18446744073709551616) * (b % 18446744073709551616) / 18446744073709551616) - (b % 18446744073709551616)) % 18446744073709551616)), .int .u64 ((a % 18446744073709551616) * (b % 18446744073709551616) % 18446744073709551616)], 68, true, 2⟩)] ?_
      refine aw_rt ?_
      exact en_ret [.agg #[.int .i64 (Sp.s64 ((((a % 18446744073709551616) * (b % 18446744073709551616) / 18446744073709551616) - (b % 18446744073709551616)) % 18446744073709551616)), .int .u64 ((a % 18446744073709551616) * (b % 18446744073709551616) % 18446744073709551616)]] (show (.agg #[.int .i64 (Sp.s64 ((((a % 18446744073709551616) * (b % 18446744073709551616) / 18446744073709551616) - (b % 18446744073709551616)) % 18446744073709551616)), .int .u64 ((a % 18446744073709551616) * (b % 18446744073709551616) % 18446744073709551616)] : Value) = (.agg #[.int .i64 (Sp.wh (a * b)), .int .u64 (Sp.wl (a * b))]) from (congrArg (fun z : List Value => Value.agg z.toArray) (lcons (congrArg (Value.int .i64) (show (Sp.s64 ((((a % 18446744073709551616) * (b % 18446744073709551616) / 18446744073709551616) - (b % 18446744073709551616)) % 18446744073709551616)) = (Sp.wh (a * b)) from by (simp only [Sp.wh, Sp.wl, Sp.s64]; rw [pe]; (repeat' split) <;> omega))) (lcons (congrArg (Value.int .u64) (show ((a % 18446744073709551616) * (b % 18446744073709551616) % 18446744073709551616) = (Sp.wl (a * b)) from by (simp only [Sp.wh, Sp.wl, Sp.s64]; rw [pe]; (repeat' split) <;> omega))) rfl))))
  · have h1p : ¬ ((a < 0)) := by first | (simpa using h1) | (have h1q := h1; simp at h1q; omega) | (have h1q := bx2 h1; simp at h1q; omega)
    refine aw_sk ?_
    refine then_normal ?_
    refine aw_sq 30 31 ?_
    refine aw_p 61 (
      .a 2 2 <| .nil _ _) ?_
    refine aw_cd 122 123 (decide (b < 0)) (fun h3 => ?_) (fun h3 => ?_)
    · have h3p : ((b < 0)) := by first | (simpa using h3) | (have h3q := h3; simp at h3q; omega) | (have h3q := bx1 h3; simp at h3q; omega)
      refine aw_p1 (
        .a 2 2 <| .p (does_i (a % 18446744073709551616) (Sp.ulow) .u64) <| .p (does_i ((((a % 18446744073709551616) * (b % 18446744073709551616) / 18446744073709551616) - (a % 18446744073709551616)) % 18446744073709551616) (Sp.ulow) .u64) <| .a 1 2 <| .nil _ _) ?_
      refine then_normal ?_
      refine aw_p 63 (
        .a 1 2 <| .p (does_i (Sp.s64 ((((a % 18446744073709551616) * (b % 18446744073709551616) / 18446744073709551616) - (a % 18446744073709551616)) % 18446744073709551616)) (Sp.s64_any _) .i64) <| .a 3 2 <| .nil _ _) ?_
      refine aw_w [(4, .pointer (some ⟨1, 0, none⟩))] [(1, ⟨[.int .i64 (Sp.s64 ((((a % 18446744073709551616) * (b % 18446744073709551616) / 18446744073709551616) - (a % 18446744073709551616)) % 18446744073709551616)), .int .u64 ((a % 18446744073709551616) * (b % 18446744073709551616) % 18446744073709551616)], 68, true, 2⟩)] ?_
      refine aw_rt ?_
      exact en_ret [.agg #[.int .i64 (Sp.s64 ((((a % 18446744073709551616) * (b % 18446744073709551616) / 18446744073709551616) - (a % 18446744073709551616)) % 18446744073709551616)), .int .u64 ((a % 18446744073709551616) * (b % 18446744073709551616) % 18446744073709551616)]] (show (.agg #[.int .i64 (Sp.s64 ((((a % 18446744073709551616) * (b % 18446744073709551616) / 18446744073709551616) - (a % 18446744073709551616)) % 18446744073709551616)), .int .u64 ((a % 18446744073709551616) * (b % 18446744073709551616) % 18446744073709551616)] : Value) = (.agg #[.int .i64 (Sp.wh (a * b)), .int .u64 (Sp.wl (a * b))]) from (congrArg (fun z : List Value => Value.agg z.toArray) (lcons (congrArg (Value.int .i64) (show (Sp.s64 ((((a % 18446744073709551616) * (b % 18446744073709551616) / 18446744073709551616) - (a % 18446744073709551616)) % 18446744073709551616)) = (Sp.wh (a * b)) from by (simp only [Sp.wh, Sp.wl, Sp.s64]; rw [pe]; (repeat' split) <;> omega))) (lcons (congrArg (Value.int .u64) (show ((a % 18446744073709551616) * (b % 18446744073709551616) % 18446744073709551616) = (Sp.wl (a * b)) from by (simp only [Sp.wh, Sp.wl, Sp.s64]; rw [pe]; (repeat' split) <;> omega))) rfl))))
    · have h3p : ¬ ((b < 0)) := by first | (simpa using h3) | (have h3q := h3; simp at h3q; omega) | (have h3q := bx2 h3; simp at h3q; omega)
      refine aw_sk ?_
      refine then_normal ?_
      refine aw_p 63 (
        .a 1 2 <| .p (does_i (Sp.s64 ((a % 18446744073709551616) * (b % 18446744073709551616) / 18446744073709551616)) (Sp.s64_any _) .i64) <| .a 3 2 <| .nil _ _) ?_
      refine aw_rt ?_
      exact en_ret [.agg #[.int .i64 (Sp.s64 ((a % 18446744073709551616) * (b % 18446744073709551616) / 18446744073709551616)), .int .u64 ((a % 18446744073709551616) * (b % 18446744073709551616) % 18446744073709551616)]] (show (.agg #[.int .i64 (Sp.s64 ((a % 18446744073709551616) * (b % 18446744073709551616) / 18446744073709551616)), .int .u64 ((a % 18446744073709551616) * (b % 18446744073709551616) % 18446744073709551616)] : Value) = (.agg #[.int .i64 (Sp.wh (a * b)), .int .u64 (Sp.wl (a * b))]) from (congrArg (fun z : List Value => Value.agg z.toArray) (lcons (congrArg (Value.int .i64) (show (Sp.s64 ((a % 18446744073709551616) * (b % 18446744073709551616) / 18446744073709551616)) = (Sp.wh (a * b)) from by (simp only [Sp.wh, Sp.wl, Sp.s64]; rw [pe]; (repeat' split) <;> omega))) (lcons (congrArg (Value.int .u64) (show ((a % 18446744073709551616) * (b % 18446744073709551616) % 18446744073709551616) = (Sp.wl (a * b)) from by (simp only [Sp.wh, Sp.wl, Sp.s64]; rw [pe]; (repeat' split) <;> omega))) rfl))))

theorem wshort_ok (n : Int) (z0 : -170141183460469231731687303715884105728 ≤ n) (z1 : n < 170141183460469231731687303715884105728) :
    AC Tryd.prog 45 0 ([.agg #[.int .i64 (Sp.wh n), .int .u64 (Sp.wl n)]]) [] (.tuple #[.int .i64 (Sp.shN n), .int .i64 (Sp.shE n)]) [] := by
  refine ac_in Tryd.func45 (fun w0 W pin => ?_)
  refine aw_p 3 (
    .a 3 1 <| .nil _ _) ?_
  refine aw_sq 6 7 ?_
  refine aw_d 13 (
    .a 3 2 <| .p (does_i (Sp.s64 n) (Sp.s64_of n) .i64) <| .p (does_c (wof_ok (Sp.s64 n) (by have := Sp.s64_bd n; omega) (by have := Sp.s64_bd n; omega))) <| .p (does_e (!(Sp.in64 n)) (Sp.short_neq z0 z1)) <| .nil _ _) ?_
  refine aw_cd 26 27 (!(Sp.in64 n)) (fun h1 => ?_) (fun h1 => ?_)
  · have h1p : ¬ (Sp.in64 n) = true := by simpa using h1
    refine aw_p 53 (
      .a 2 2 <| .nil _ _) ?_
    refine aw_rt ?_
    refine then_ret ?_
    exact en_ret [.int .i64 0, .int .i64 2] (show (.tuple #[.int .i64 0, .int .i64 2] : Value) = (.tuple #[.int .i64 (Sp.shN n), .int .i64 (Sp.shE n)]) from (congrArg (fun z : List Value => Value.tuple z.toArray) (lcons (congrArg (Value.int .i64) (show 0 = (Sp.shN n) from by (first | exact (Sp.sh_no h1p).1 | exact (Sp.sh_no h1p).2 | exact (Sp.sh_yes h1p).1 | exact (Sp.sh_yes h1p).2))) (lcons (congrArg (Value.int .i64) (show 2 = (Sp.shE n) from by (first | exact (Sp.sh_no h1p).1 | exact (Sp.sh_no h1p).2 | exact (Sp.sh_yes h1p).1 | exact (Sp.sh_yes h1p).2))) rfl))))
  · have h1p : (Sp.in64 n) = true := by simpa using h1
    refine aw_sk ?_
    refine then_normal ?_
    refine aw_p 15 (
      .a 2 2 <| .p (does_i (Sp.s64 n) (Sp.s64_of n) .i64) <| .a 2 2 <| .nil _ _) ?_
    refine aw_rt ?_
    exact en_ret [.int .i64 (Sp.s64 n), .int .i64 0] (show (.tuple #[.int .i64 (Sp.s64 n), .int .i64 0] : Value) = (.tuple #[.int .i64 (Sp.shN n), .int .i64 (Sp.shE n)]) from (congrArg (fun z : List Value => Value.tuple z.toArray) (lcons (congrArg (Value.int .i64) (show (Sp.s64 n) = (Sp.shN n) from by (first | exact (Sp.sh_no h1p).1 | exact (Sp.sh_no h1p).2 | exact (Sp.sh_yes h1p).1 | exact (Sp.sh_yes h1p).2))) (lcons (congrArg (Value.int .i64) (show 0 = (Sp.shE n) from by (first | exact (Sp.sh_no h1p).1 | exact (Sp.sh_no h1p).2 | exact (Sp.sh_yes h1p).1 | exact (Sp.sh_yes h1p).2))) rfl))))


end Go.Proofs.YtngmegnaohmapaaDoor.Am
