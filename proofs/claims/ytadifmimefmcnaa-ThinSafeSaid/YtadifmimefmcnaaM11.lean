import Derived.Test.YtadifmimefmcnaaProg
import Derived.Test.YtadifmimefmcnaaM2
import Derived.Test.YtadifmimefmcnaaM5
import Derived.Test.YtadifmimefmcnaaM4
import Derived.Test.YtadifmimefmcnaaM3
import Derived.Test.YtadifmimefmcnaaM6
import Derived.Shelf.RegionOpenPlain
import Derived.WalkKit
import Derived.Deep.LoopGhost
import Derived.Deep.RegionLaw
import Derived.Lib.Walk
import Derived.Lib.SliceRun
import Derived.Test.YtadifmimefmcnaaM9
import Derived.Test.YtadifmimefmcnaaM10
namespace Go.Proofs.Ytadifmimefmcnaa.Am
open Go Go.Proofs
set_option maxRecDepth 100000
set_option maxHeartbeats 4000000
set_option linter.unusedVariables false
set_option linter.unusedSimpArgs false
theorem mul64_ok (m n : Int) (h0 : 0 ≤ m) (h1 : m ≤ 18446744073709551615) (h2 : 0 ≤ n) (h3 : n ≤ 18446744073709551615) :
    AC Try.prog 120 0 ([.int .u64 m, .int .u64 n]) [] (.tuple #[.int .u64 (m * n / 18446744073709551616), .int .u64 (m * n % 18446744073709551616)]) [] := by
  obtain ⟨p0, p1, p2, p3, pe⟩ := Sp.mul64_parts h0 h1 h2 h3
  refine ac_in Try.func120 (fun w0 W pin => ?_)
  refine aw_p 3 (
    .a 2 1 <| .nil _ _) ?_
  refine aw_p 7 (
    .a 1 1 <| .p (does_i (m % 4294967296) (Sp.and_low h0 h1) .u64) <| .a 1 1 <| .nil _ _) ?_
  refine aw_p 15 (
    .a 1 1 <| .p (does_i (m / 4294967296) (Sp.ufd (by decide)) .u64) <| .a 1 1 <| .nil _ _) ?_
  refine aw_p 31 (
    .a 1 1 <| .p (does_i (n % 4294967296) (Sp.and_low h2 h3) .u64) <| .a 1 1 <| .nil _ _) ?_
  refine aw_p 63 (
    .a 1 1 <| .p (does_i (n / 4294967296) (Sp.ufd (by decide)) .u64) <| .a 1 1 <| .nil _ _) ?_
  refine aw_p 127 (
    .a 2 1 <| .p (does_i ((m % 4294967296) * (n % 4294967296)) (wrap_u64 (by omega) (by omega)) .u64) <| .a 1 1 <| .nil _ _) ?_
  refine aw_p 255 (
    .a 2 1 <| .p (does_i ((m / 4294967296) * (n % 4294967296)) (wrap_u64 (by omega) (by omega)) .u64) <| .a 1 1 <| .p (does_i (((m % 4294967296) * (n % 4294967296)) / 4294967296) (Sp.ufd (by decide)) .u64) <|
    .p (does_i (((m / 4294967296) * (n % 4294967296)) + (((m % 4294967296) * (n % 4294967296)) / 4294967296)) (wrap_u64 (by omega) (by omega)) .u64) <| .a 1 1 <| .nil _ _) ?_
  refine aw_w [(0, .int .u64 m), (1, .int .u64 n), (4, .int .u64 0), (5, .int .u64 0), (6, .int .u64 (m % 4294967296)), (7, .int .u64 (m / 4294967296)), (9, .int .u64 (n / 4294967296)), (11, .int .u64 (((m / 4294967296) * (n % 4294967296)) + (((m % 4294967296) * (n % 4294967296)) / 4294967296)))] [] ?_
  refine aw_p 511 (
    .a 1 1 <|
    .p (does_i ((((m / 4294967296) * (n % 4294967296)) + (((m % 4294967296) * (n % 4294967296)) / 4294967296)) % 4294967296) ((show (IntKind.wrap .u64 ((BitVec.ofInt 64 (((m / 4294967296) * (n % 4294967296)) + (((m % 4294967296) * (n % 4294967296)) / 4294967296)) &&& BitVec.ofInt 64 4294967295).toNat : Int)) = ((((m / 4294967296) * (n % 4294967296)) + (((m % 4294967296) * (n % 4294967296)) / 4294967296)) % 4294967296) from Sp.and_low (by omega) (by omega))) .u64) <|
    .a 1 1 <| .nil _ _) ?_
  refine aw_p 1023 (
    .a 1 1 <| .p (does_i ((((m / 4294967296) * (n % 4294967296)) + (((m % 4294967296) * (n % 4294967296)) / 4294967296)) / 4294967296) (Sp.ufd (by decide)) .u64) <| .a 1 1 <| .nil _ _) ?_
  refine aw_p 2047 (
    .a 3 1 <| .p (does_i ((m % 4294967296) * (n / 4294967296)) (wrap_u64 (by omega) (by omega)) .u64) <|
    .p (does_i (((((m / 4294967296) * (n % 4294967296)) + (((m % 4294967296) * (n % 4294967296)) / 4294967296)) % 4294967296) + ((m % 4294967296) * (n / 4294967296))) (wrap_u64 (by omega) (by omega)) .u64) <| .a 1 1 <| .nil _ _) ?_
  refine aw_p 4095 (
    .a 2 1 <| .p (does_i ((m / 4294967296) * (n / 4294967296)) (wrap_u64 (by omega) (by omega)) .u64) <| .a 1 1 <|
    .p (does_i (((m / 4294967296) * (n / 4294967296)) + ((((m / 4294967296) * (n % 4294967296)) + (((m % 4294967296) * (n % 4294967296)) / 4294967296)) / 4294967296)) (wrap_u64 (by omega) (by omega)) .u64) <| .a 1 1 <|
    .p (does_i ((((((m / 4294967296) * (n % 4294967296)) + (((m % 4294967296) * (n % 4294967296)) / 4294967296)) % 4294967296) + ((m % 4294967296) * (n / 4294967296))) / 4294967296) (Sp.ufd (by decide)) .u64) <|
    .p (does_i ((((m / 4294967296) * (n / 4294967296)) + ((((m / 4294967296) * (n % 4294967296)) + (((m % 4294967296) * (n % 4294967296)) / 4294967296)) / 4294967296)) + ((((((m / 4294967296) * (n % 4294967296)) + (((m % 4294967296) * (n % 4294967296)) / 4294967296)) % 4294967296) + ((m % 4294967296) * (n / 4294967296))) / 4294967296)) (wrap_u64 (by omega) (by omega)) .u64) <|
    .a 1 1 <| .nil _ _) ?_
  refine aw_p 8191 (
    .a 2 1 <| .p (does_i (m * n % 18446744073709551616) (Sp.ulow) .u64) <| .a 1 1 <| .nil _ _) ?_
  refine aw_w [(4, .int .u64 ((((m / 4294967296) * (n / 4294967296)) + ((((m / 4294967296) * (n % 4294967296)) + (((m % 4294967296) * (n % 4294967296)) / 4294967296)) / 4294967296)) + ((((((m / 4294967296) * (n % 4294967296)) + (((m % 4294967296) * (n % 4294967296)) / 4294967296)) % 4294967296) + ((m % 4294967296) * (n / 4294967296))) / 4294967296))), (5, .int .u64 (m * n % 18446744073709551616))] [] ?_
  refine aw_rt ?_
  exact en_ret [.int .u64 ((((m / 4294967296) * (n / 4294967296)) + ((((m / 4294967296) * (n % 4294967296)) + (((m % 4294967296) * (n % 4294967296)) / 4294967296)) / 4294967296)) + ((((((m / 4294967296) * (n % 4294967296)) + (((m % 4294967296) * (n % 4294967296)) / 4294967296)) % 4294967296) + ((m % 4294967296) * (n / 4294967296))) / 4294967296)), .int .u64 (m * n % 18446744073709551616)] (show (.tuple #[.int .u64 ((((m / 4294967296) * (n / 4294967296)) + ((((m / 4294967296) * (n % 4294967296)) + (((m % 4294967296) * (n % 4294967296)) / 4294967296)) / 4294967296)) + ((((((m / 4294967296) * (n % 4294967296)) + (((m % 4294967296) * (n % 4294967296)) / 4294967296)) % 4294967296) + ((m % 4294967296) * (n / 4294967296))) / 4294967296)), .int .u64 (m * n % 18446744073709551616)] : Value) = (.tuple #[.int .u64 (m * n / 18446744073709551616), .int .u64 (m * n % 18446744073709551616)]) from (congrArg (fun z : List Value => Value.tuple z.toArray) (lcons (congrArg (Value.int .u64) (show ((((m / 4294967296) * (n / 4294967296)) + ((((m / 4294967296) * (n % 4294967296)) + (((m % 4294967296) * (n % 4294967296)) / 4294967296)) / 4294967296)) + ((((((m / 4294967296) * (n % 4294967296)) + (((m % 4294967296) * (n % 4294967296)) / 4294967296)) % 4294967296) + ((m % 4294967296) * (n / 4294967296))) / 4294967296)) = (m * n / 18446744073709551616) from by (rw [pe]; omega))) (lcons rfl rfl))))
theorem wof_ok (n : Int) (zln : -9223372036854775808 ≤ n) (zun : n ≤ 9223372036854775807) :
    AC Try.prog 93 0 ([.int .i64 n]) [] (.agg #[.int .i64 (Sp.wh n), .int .u64 (Sp.wl n)]) [] := by
  refine ac_in Try.func93 (fun w0 W pin => ?_)
  refine aw_p 3 (
    .a 1 1 <| .nil _ _) ?_
  refine aw_p 7 (
    .a 6 2 <| .nil _ _) ?_
  refine aw_rt ?_
  exact en_ret [.agg #[.int .i64 (Int.fdiv n 9223372036854775808), .int .u64 (IntKind.wrap .u64 n)]] (show (.agg #[.int .i64 (Int.fdiv n 9223372036854775808), .int .u64 (IntKind.wrap .u64 n)] : Value) = (.agg #[.int .i64 (Sp.wh n), .int .u64 (Sp.wl n)]) from (congrArg (fun z : List Value => Value.agg z.toArray) (lcons (congrArg (Value.int .i64) (show (Int.fdiv n 9223372036854775808) = (Sp.wh n) from by (first | (simp only [Sp.wh, Sp.s64]; rw [Int.fdiv_eq_ediv_of_nonneg _ (by decide)]; omega) | (simp only [Sp.wl, IntKind.wrap_u64])))) (lcons (congrArg (Value.int .u64) (show (IntKind.wrap .u64 n) = (Sp.wl n) from by (first | (simp only [Sp.wh, Sp.s64]; rw [Int.fdiv_eq_ediv_of_nonneg _ (by decide)]; omega) | (simp only [Sp.wl, IntKind.wrap_u64])))) rfl))))
theorem wmul_ok (a b : Int) (zla : -9223372036854775808 ≤ a) (zua : a ≤ 9223372036854775807) (zlb : -9223372036854775808 ≤ b) (zub : b ≤ 9223372036854775807) :
    AC Try.prog 92 0 ([.int .i64 a, .int .i64 b]) [] (.agg #[.int .i64 (Sp.wh (a * b)), .int .u64 (Sp.wl (a * b))]) [] := by
  obtain ⟨pe, pn⟩ := Sp.ab_parts zla zua zlb zub
  refine ac_in Try.func92 (fun w0 W pin => ?_)
  refine aw_p 3 (
    .a 1 1 <| .nil _ _) ?_
  refine aw_p 7 (
    .a 1 2 <| .p (does_i (a % 18446744073709551616) (Sp.ulow) .u64) <| .a 1 2 <| .p (does_i (b % 18446744073709551616) (Sp.ulow) .u64) <| .p (does_c (mul64_ok (a % 18446744073709551616) (b % 18446744073709551616) (by omega) (by omega) (by omega) (by omega))) <| .a 5 2 <| .nil _ _) ?_
  refine aw_sq 14 15 ?_
  refine aw_p 29 (
    .a 2 2 <| .nil _ _) ?_
  refine aw_cd 58 59 (decide (a < 0)) (fun h1 => ?_) (fun h1 => ?_)
  · have h1p : ((a < 0)) := by first | (simpa using h1) | (have h1q := h1; simp at h1q; omega) | (have h1q := bx1 h1; simp at h1q; omega)
    refine aw_p1 (
      .a 2 2 <| .p (does_i (b % 18446744073709551616) (Sp.ulow) .u64) <| .p (does_i ((((a % 18446744073709551616) * (b % 18446744073709551616) / 18446744073709551616) - (b % 18446744073709551616)) % 18446744073709551616) (Sp.ulow) .u64) <| .a 1 2 <| .nil _ _) ?_
    refine then_normal ?_
    refine aw_sq 30 31 ?_
    refine aw_p 61 (
      .a 2 2 <| .nil _ _) ?_
    refine aw_cd 122 123 (decide (b < 0)) (fun h2 => ?_) (fun h2 => ?_)
    · have h2p : ((b < 0)) := by first | (simpa using h2) | (have h2q := h2; simp at h2q; omega) | (have h2q := bx1 h2; simp at h2q; omega)
      refine aw_p1 (
        .a 2 2 <| .p (does_i (a % 18446744073709551616) (Sp.ulow) .u64) <| .p (does_i ((((((a % 18446744073709551616) * (b % 18446744073709551616) / 18446744073709551616) - (b % 18446744073709551616)) % 18446744073709551616) - (a % 18446744073709551616)) % 18446744073709551616) (Sp.ulow) .u64) <| .a 1 2 <| .nil _ _) ?_
      refine then_normal ?_
      refine aw_p 63 (
        .a 1 2 <| .p (does_i (Sp.s64 ((((((a % 18446744073709551616) * (b % 18446744073709551616) / 18446744073709551616) - (b % 18446744073709551616)) % 18446744073709551616) - (a % 18446744073709551616)) % 18446744073709551616)) (Sp.s64_any _) .i64) <| .a 3 2 <| .nil _ _) ?_
      refine aw_w [(4, .pointer (some ⟨1, 0, none⟩))] [(1, ⟨[.int .i64 (Sp.s64 ((((((a % 18446744073709551616) * (b % 18446744073709551616) / 18446744073709551616) - (b % 18446744073709551616)) % 18446744073709551616) - (a % 18446744073709551616)) % 18446744073709551616)), .int .u64 ((a % 18446744073709551616) * (b % 18446744073709551616) % 18446744073709551616)], 90, true, 2⟩)] ?_
      refine aw_rt ?_
      exact en_ret [.agg #[.int .i64 (Sp.s64 ((((((a % 18446744073709551616) * (b % 18446744073709551616) / 18446744073709551616) - (b % 18446744073709551616)) % 18446744073709551616) - (a % 18446744073709551616)) % 18446744073709551616)), .int .u64 ((a % 18446744073709551616) * (b % 18446744073709551616) % 18446744073709551616)]] (show (.agg #[.int .i64 (Sp.s64 ((((((a % 18446744073709551616) * (b % 18446744073709551616) / 18446744073709551616) - (b % 18446744073709551616)) % 18446744073709551616) - (a % 18446744073709551616)) % 18446744073709551616)), .int .u64 ((a % 18446744073709551616) * (b % 18446744073709551616) % 18446744073709551616)] : Value) = (.agg #[.int .i64 (Sp.wh (a * b)), .int .u64 (Sp.wl (a * b))]) from (congrArg (fun z : List Value => Value.agg z.toArray) (lcons (congrArg (Value.int .i64) (show (Sp.s64 ((((((a % 18446744073709551616) * (b % 18446744073709551616) / 18446744073709551616) - (b % 18446744073709551616)) % 18446744073709551616) - (a % 18446744073709551616)) % 18446744073709551616)) = (Sp.wh (a * b)) from by (simp only [Sp.wh, Sp.wl, Sp.s64]; rw [pe]; (repeat' split) <;> omega))) (lcons (congrArg (Value.int .u64) (show ((a % 18446744073709551616) * (b % 18446744073709551616) % 18446744073709551616) = (Sp.wl (a * b)) from by (simp only [Sp.wh, Sp.wl, Sp.s64]; rw [pe]; (repeat' split) <;> omega))) rfl))))
    · have h2p : ¬ ((b < 0)) := by first | (simpa using h2) | (have h2q := h2; simp at h2q; omega) | (have h2q := bx2 h2; simp at h2q; omega)
      refine aw_sk ?_
      refine then_normal ?_
      refine aw_p 63 (
        .a 1 2 <| .p (does_i (Sp.s64 ((((a % 18446744073709551616) * (b % 18446744073709551616) / 18446744073709551616) - (b % 18446744073709551616)) % 18446744073709551616)) (Sp.s64_any _) .i64) <| .a 3 2 <| .nil _ _) ?_
      refine aw_w [(4, .pointer (some ⟨1, 0, none⟩))] [(1, ⟨[.int .i64 (Sp.s64 ((((a % 18446744073709551616) * (b % 18446744073709551616) / 18446744073709551616) - (b % 18446744073709551616)) % 18446744073709551616)), .int .u64 ((a % 18446744073709551616) * (b % 18446744073709551616) % 18446744073709551616)], 90, true, 2⟩)] ?_
      refine aw_rt ?_
      exact en_ret [.agg #[.int .i64 (Sp.s64 ((((a % 18446744073709551616) * (b % 18446744073709551616) / 18446744073709551616) - (b % 18446744073709551616)) % 18446744073709551616)), .int .u64 ((a % 18446744073709551616) * (b % 18446744073709551616) % 18446744073709551616)]] (show (.agg #[.int .i64 (Sp.s64 ((((a % 18446744073709551616) * (b % 18446744073709551616) / 18446744073709551616) - (b % 18446744073709551616)) % 18446744073709551616)), .int .u64 ((a % 18446744073709551616) * (b % 18446744073709551616) % 18446744073709551616)] : Value) = (.agg #[.int .i64 (Sp.wh (a * b)), .int .u64 (Sp.wl (a * b))]) from (congrArg (fun z : List Value => Value.agg z.toArray) (lcons (congrArg (Value.int .i64) (show (Sp.s64 ((((a % 18446744073709551616) * (b % 18446744073709551616) / 18446744073709551616) - (b % 18446744073709551616)) % 18446744073709551616)) = (Sp.wh (a * b)) from by (simp only [Sp.wh, Sp.wl, Sp.s64]; rw [pe]; (repeat' split) <;> omega))) (lcons (congrArg (Value.int .u64) (show ((a % 18446744073709551616) * (b % 18446744073709551616) % 18446744073709551616) = (Sp.wl (a * b)) from by (simp only [Sp.wh, Sp.wl, Sp.s64]; rw [pe]; (repeat' split) <;> omega))) rfl))))
  · have h1p : ¬ ((a < 0)) := by first | (simpa using h1) | (have h1q := h1; simp at h1q; omega) | (have h1q := bx2 h1; simp at h1q; omega)
    refine aw_sk ?_
    refine then_normal ?_
    refine aw_sq 30 31 ?_
    refine aw_p 61 (
      .a 2 2 <| .nil _ _) ?_
    refine aw_cd 122 123 (decide (b < 0)) (fun h3 => ?_) (fun h3 => ?_)
    · have h3p : ((b < 0)) := by first | (simpa using h3) | (have h3q := h3; simp at h3q; omega) | (have h3q := bx1 h3; simp at h3q; omega)
      refine aw_p1 (
        .a 2 2 <| .p (does_i (a % 18446744073709551616) (Sp.ulow) .u64) <| .p (does_i ((((a % 18446744073709551616) * (b % 18446744073709551616) / 18446744073709551616) - (a % 18446744073709551616)) % 18446744073709551616) (Sp.ulow) .u64) <| .a 1 2 <| .nil _ _) ?_
      refine then_normal ?_
      refine aw_p 63 (
        .a 1 2 <| .p (does_i (Sp.s64 ((((a % 18446744073709551616) * (b % 18446744073709551616) / 18446744073709551616) - (a % 18446744073709551616)) % 18446744073709551616)) (Sp.s64_any _) .i64) <| .a 3 2 <| .nil _ _) ?_
      refine aw_w [(4, .pointer (some ⟨1, 0, none⟩))] [(1, ⟨[.int .i64 (Sp.s64 ((((a % 18446744073709551616) * (b % 18446744073709551616) / 18446744073709551616) - (a % 18446744073709551616)) % 18446744073709551616)), .int .u64 ((a % 18446744073709551616) * (b % 18446744073709551616) % 18446744073709551616)], 90, true, 2⟩)] ?_
      refine aw_rt ?_
      exact en_ret [.agg #[.int .i64 (Sp.s64 ((((a % 18446744073709551616) * (b % 18446744073709551616) / 18446744073709551616) - (a % 18446744073709551616)) % 18446744073709551616)), .int .u64 ((a % 18446744073709551616) * (b % 18446744073709551616) % 18446744073709551616)]] (show (.agg #[.int .i64 (Sp.s64 ((((a % 18446744073709551616) * (b % 18446744073709551616) / 18446744073709551616) - (a % 18446744073709551616)) % 18446744073709551616)), .int .u64 ((a % 18446744073709551616) * (b % 18446744073709551616) % 18446744073709551616)] : Value) = (.agg #[.int .i64 (Sp.wh (a * b)), .int .u64 (Sp.wl (a * b))]) from (congrArg (fun z : List Value => Value.agg z.toArray) (lcons (congrArg (Value.int .i64) (show (Sp.s64 ((((a % 18446744073709551616) * (b % 18446744073709551616) / 18446744073709551616) - (a % 18446744073709551616)) % 18446744073709551616)) = (Sp.wh (a * b)) from by (simp only [Sp.wh, Sp.wl, Sp.s64]; rw [pe]; (repeat' split) <;> omega))) (lcons (congrArg (Value.int .u64) (show ((a % 18446744073709551616) * (b % 18446744073709551616) % 18446744073709551616) = (Sp.wl (a * b)) from by (simp only [Sp.wh, Sp.wl, Sp.s64]; rw [pe]; (repeat' split) <;> omega))) rfl))))
    · have h3p : ¬ ((b < 0)) := by first | (simpa using h3) | (have h3q := h3; simp at h3q; omega) | (have h3q := bx2 h3; simp at h3q; omega)
      refine aw_sk ?_
      refine then_normal ?_
      refine aw_p 63 (
        .a 1 2 <| .p (does_i (Sp.s64 ((a % 18446744073709551616) * (b % 18446744073709551616) / 18446744073709551616)) (Sp.s64_any _) .i64) <| .a 3 2 <| .nil _ _) ?_
      refine aw_rt ?_
      exact en_ret [.agg #[.int .i64 (Sp.s64 ((a % 18446744073709551616) * (b % 18446744073709551616) / 18446744073709551616)), .int .u64 ((a % 18446744073709551616) * (b % 18446744073709551616) % 18446744073709551616)]] (show (.agg #[.int .i64 (Sp.s64 ((a % 18446744073709551616) * (b % 18446744073709551616) / 18446744073709551616)), .int .u64 ((a % 18446744073709551616) * (b % 18446744073709551616) % 18446744073709551616)] : Value) = (.agg #[.int .i64 (Sp.wh (a * b)), .int .u64 (Sp.wl (a * b))]) from (congrArg (fun z : List Value => Value.agg z.toArray) (lcons (congrArg (Value.int .i64) (show (Sp.s64 ((a % 18446744073709551616) * (b % 18446744073709551616) / 18446744073709551616)) = (Sp.wh (a * b)) from by (simp only [Sp.wh, Sp.wl, Sp.s64]; rw [pe]; (repeat' split) <;> omega))) (lcons (congrArg (Value.int .u64) (show ((a % 18446744073709551616) * (b % 18446744073709551616) % 18446744073709551616) = (Sp.wl (a * b)) from by (simp only [Sp.wh, Sp.wl, Sp.s64]; rw [pe]; (repeat' split) <;> omega))) rfl))))
end Go.Proofs.Ytadifmimefmcnaa.Am

namespace Go.Proofs.Ytadifmimefmcnaa.Am
open Go Go.Proofs
set_option maxRecDepth 100000
set_option maxHeartbeats 4000000
set_option linter.unusedVariables false
set_option linter.unusedSimpArgs false
theorem wcmp_ok (a b : Int) (zla : -170141183460469231731687303715884105728 ≤ a) (zua : a < 170141183460469231731687303715884105728) (zlb : -170141183460469231731687303715884105728 ≤ b) (zub : b < 170141183460469231731687303715884105728) :
    AC Try.prog 95 0 ([.agg #[.int .i64 (Sp.wh a), .int .u64 (Sp.wl a)], .agg #[.int .i64 (Sp.wh b), .int .u64 (Sp.wl b)]]) [] (.int .i64 (Sp.cmp a b)) [] := by
  have wla := Sp.wl_bd a; have wha := Sp.wh_bd a; have wia := Sp.wh_id zla zua; have wma : Sp.wl a = a % 18446744073709551616 := rfl; have wlb := Sp.wl_bd b; have whb := Sp.wh_bd b; have wib := Sp.wh_id zlb zub; have wmb : Sp.wl b = b % 18446744073709551616 := rfl
  refine ac_in Try.func95 (fun w0 W pin => ?_)
  refine aw_p 3 (
    .a 3 1 <| .nil _ _) ?_
  refine aw_sq 6 7 ?_
  refine aw_bl 0 13 ?_
  refine aw_p 27 (
    .a 2 3 <| .p (does_e (decide (a = b)) (Sp.w_eq zla zua zlb zub)) <| .a 1 3 <| .nil _ _) ?_
  refine aw_cd 54 55 (decide (a = b)) (fun h1 => ?_) (fun h1 => ?_)
  · have h1p : ((a = b)) := by first | (simpa using h1) | (have h1q := h1; simp at h1q; omega) | (have h1q := bx1 h1; simp at h1q; omega)
    refine aw_p 109 (
      .a 1 3 <| .nil _ _) ?_
    refine aw_rt ?_
    refine block_ret ?_
    refine then_ret ?_
    exact en_ret [.int .i64 0] (show (.int .i64 0 : Value) = (.int .i64 (Sp.cmp a b)) from (congrArg (Value.int .i64) (show 0 = (Sp.cmp a b) from by (simp only [Sp.cmp]; (repeat' split) <;> omega))))
  · have h1p : ¬ ((a = b)) := by first | (simpa using h1) | (have h1q := h1; simp at h1q; omega) | (have h1q := bx2 h1; simp at h1q; omega)
    rcases Bool.eq_false_or_eq_true (decide ((Sp.wh a) < (Sp.wh b))) with h2 | h2
    · have h2p : (((Sp.wh a) < (Sp.wh b))) := by first | (simpa using h2) | (have h2q := h2; simp at h2q; omega) | (have h2q := bx1 h2; simp at h2q; omega)
      refine aw_p 111 (
        .a 4 3 <| .p (does_b true (h2)) <| .a 15 3 <| .nil _ _) ?_
      refine aw_tr 222 ?_
      refine aw_p 445 (
        .a 1 3 <| .nil _ _) ?_
      refine aw_rt ?_
      refine block_ret ?_
      refine then_ret ?_
      exact en_ret [.int .i64 (-1)] (show (.int .i64 (-1) : Value) = (.int .i64 (Sp.cmp a b)) from (congrArg (Value.int .i64) (show (-1) = (Sp.cmp a b) from by (simp only [Sp.cmp]; (repeat' split) <;> omega))))
    · have h2p : ¬ (((Sp.wh a) < (Sp.wh b))) := by first | (simpa using h2) | (have h2q := h2; simp at h2q; omega) | (have h2q := bx2 h2; simp at h2q; omega)
      rcases Bool.eq_false_or_eq_true ((Sp.wh a) == (Sp.wh b)) with h3 | h3
      · have h3p : (((Sp.wh a) = (Sp.wh b))) := by first | (simpa using h3) | (have h3q := h3; simp at h3q; omega) | (have h3q := bx1 h3; simp at h3q; omega)
        refine aw_p 111 (
          .a 4 3 <| .p (does_b false (h2)) <| .a 5 3 <| .p (does_b true (h3)) <| .a 9 3 <| .nil _ _) ?_
        refine aw_cd 222 223 (decide ((Sp.wl a) < (Sp.wl b))) (fun h4 => ?_) (fun h4 => ?_)
        · have h4p : (((Sp.wl a) < (Sp.wl b))) := by first | (simpa using h4) | (have h4q := h4; simp at h4q; omega) | (have h4q := bx1 h4; simp at h4q; omega)
          refine aw_p 445 (
            .a 1 3 <| .nil _ _) ?_
          refine aw_rt ?_
          refine block_ret ?_
          refine then_ret ?_
          exact en_ret [.int .i64 (-1)] (show (.int .i64 (-1) : Value) = (.int .i64 (Sp.cmp a b)) from (congrArg (Value.int .i64) (show (-1) = (Sp.cmp a b) from by (simp only [Sp.cmp]; (repeat' split) <;> omega))))
        · have h4p : ¬ (((Sp.wl a) < (Sp.wl b))) := by first | (simpa using h4) | (have h4q := h4; simp at h4q; omega) | (have h4q := bx2 h4; simp at h4q; omega)
          refine aw_sk ?_
          refine block_normal ?_
          refine then_normal ?_
          refine aw_p 15 (
            .a 1 3 <| .nil _ _) ?_
          refine aw_rt ?_
          exact en_ret [.int .i64 1] (show (.int .i64 1 : Value) = (.int .i64 (Sp.cmp a b)) from (congrArg (Value.int .i64) (show 1 = (Sp.cmp a b) from by (simp only [Sp.cmp]; (repeat' split) <;> omega))))
      · have h3p : ¬ (((Sp.wh a) = (Sp.wh b))) := by first | (simpa using h3) | (have h3q := h3; simp at h3q; omega) | (have h3q := bx2 h3; simp at h3q; omega)
        refine aw_p 111 (
          .a 4 3 <| .p (does_b false (h2)) <| .a 5 3 <| .p (does_b false (h3)) <| .a 9 3 <| .nil _ _) ?_
        refine aw_fl 223 ?_
        refine aw_sk ?_
        refine block_normal ?_
        refine then_normal ?_
        refine aw_p 15 (
          .a 1 3 <| .nil _ _) ?_
        refine aw_rt ?_
        exact en_ret [.int .i64 1] (show (.int .i64 1 : Value) = (.int .i64 (Sp.cmp a b)) from (congrArg (Value.int .i64) (show 1 = (Sp.cmp a b) from by (simp only [Sp.cmp]; (repeat' split) <;> omega))))
end Go.Proofs.Ytadifmimefmcnaa.Am

namespace Go.Proofs.Ytadifmimefmcnaa.Am
open Go Go.Proofs
set_option maxRecDepth 100000
set_option maxHeartbeats 4000000
set_option linter.unusedVariables false
set_option linter.unusedSimpArgs false
theorem segsq_any (px py ax ay bx b_y : Int) :
    AC Try.prog 94 0 ([.agg #[.int .i64 px, .int .i64 py], .agg #[.int .i64 ax, .int .i64 ay], .agg #[.int .i64 bx, .int .i64 b_y]]) [] (.tuple #[.agg #[.int .i64 (Sp.wh (Sp.sqn (Sp.lim 1048576 px) (Sp.lim 1048576 py) (Sp.lim 1048576 ax) (Sp.lim 1048576 ay) (Sp.lim 1048576 bx) (Sp.lim 1048576 b_y))), .int .u64 (Sp.wl (Sp.sqn (Sp.lim 1048576 px) (Sp.lim 1048576 py) (Sp.lim 1048576 ax) (Sp.lim 1048576 ay) (Sp.lim 1048576 bx) (Sp.lim 1048576 b_y)))], .int .i64 (Sp.sqd (Sp.lim 1048576 px) (Sp.lim 1048576 py) (Sp.lim 1048576 ax) (Sp.lim 1048576 ay) (Sp.lim 1048576 bx) (Sp.lim 1048576 b_y))]) [] := by
  have qpx := Sp.lim_bd (m := 1048576) (by decide) px; have qpy := Sp.lim_bd (m := 1048576) (by decide) py; have qax := Sp.lim_bd (m := 1048576) (by decide) ax; have qay := Sp.lim_bd (m := 1048576) (by decide) ay; have qbx := Sp.lim_bd (m := 1048576) (by decide) bx; have qb_y := Sp.lim_bd (m := 1048576) (by decide) b_y; have kb := Sp.crs_bd (ax := (Sp.lim 1048576 ax)) (ay := (Sp.lim 1048576 ay)) (bx := (Sp.lim 1048576 bx)) (b_y := (Sp.lim 1048576 b_y)) (cx := (Sp.lim 1048576 px)) (cy := (Sp.lim 1048576 py)) (M := 1048576) (by decide) ⟨by omega, by omega, by omega, by omega, by omega, by omega⟩; have kb1 := Sp.crs_bd (ax := (Sp.lim 1048576 ax)) (ay := (Sp.lim 1048576 ay)) (bx := (Sp.lim 1048576 px)) (b_y := (Sp.lim 1048576 py)) (cx := (Sp.lim 1048576 px)) (cy := (Sp.lim 1048576 py)) (M := 1048576) (by decide) ⟨by omega, by omega, by omega, by omega, by omega, by omega⟩; have kb2 := Sp.crs_bd (ax := (Sp.lim 1048576 bx)) (ay := (Sp.lim 1048576 b_y)) (bx := (Sp.lim 1048576 px)) (b_y := (Sp.lim 1048576 py)) (cx := (Sp.lim 1048576 px)) (cy := (Sp.lim 1048576 py)) (M := 1048576) (by decide) ⟨by omega, by omega, by omega, by omega, by omega, by omega⟩; have kb3 := Sp.crs_bd (ax := (Sp.lim 1048576 ax)) (ay := (Sp.lim 1048576 ay)) (bx := (Sp.lim 1048576 bx)) (b_y := (Sp.lim 1048576 b_y)) (cx := (Sp.lim 1048576 bx)) (cy := (Sp.lim 1048576 b_y)) (M := 1048576) (by decide) ⟨by omega, by omega, by omega, by omega, by omega, by omega⟩; have sc := Sp.sq_cases (Sp.lim 1048576 px) (Sp.lim 1048576 py) (Sp.lim 1048576 ax) (Sp.lim 1048576 ay) (Sp.lim 1048576 bx) (Sp.lim 1048576 b_y)
  refine ac_in Try.func94 (fun w0 W pin => ?_)
  refine aw_p 3 (
    .a 5 1 <| .nil _ _) ?_
  refine aw_d 7 (
    .a 2 5 <| .p (does_c (sq_ok ax ay bx b_y)) <| .a 3 5 <| .p (does_c (dot_ok ax ay bx b_y px py)) <| .a 2 5 <| .nil _ _) ?_
  refine aw_sq 14 15 ?_
  refine aw_bl 0 29 ?_
  refine aw_p 59 (
    .a 3 5 <| .nil _ _) ?_
  refine aw_cd 118 119 (decide ((Sp.dot (Sp.lim 1048576 ax) (Sp.lim 1048576 ay) (Sp.lim 1048576 bx) (Sp.lim 1048576 b_y) (Sp.lim 1048576 px) (Sp.lim 1048576 py)) ≤ 0)) (fun h1 => ?_) (fun h1 => ?_)
  · have h1p : (((Sp.dot (Sp.lim 1048576 ax) (Sp.lim 1048576 ay) (Sp.lim 1048576 bx) (Sp.lim 1048576 b_y) (Sp.lim 1048576 px) (Sp.lim 1048576 py)) ≤ 0)) := by first | (simpa using h1) | (have h1q := h1; simp at h1q; omega) | (have h1q := bx1 h1; simp at h1q; omega)
    refine aw_p 237 (
      .a 2 5 <| .p (does_c (sq_ok ax ay px py)) <| .p (does_c (wof_ok (Sp.dot (Sp.lim 1048576 ax) (Sp.lim 1048576 ay) (Sp.lim 1048576 px) (Sp.lim 1048576 py) (Sp.lim 1048576 px) (Sp.lim 1048576 py)) (by omega) (by omega))) <| .a 2 5 <| .nil _ _) ?_
    refine aw_rt ?_
    refine block_ret ?_
    refine then_ret ?_
    exact en_ret [.agg #[.int .i64 (Sp.wh (Sp.dot (Sp.lim 1048576 ax) (Sp.lim 1048576 ay) (Sp.lim 1048576 px) (Sp.lim 1048576 py) (Sp.lim 1048576 px) (Sp.lim 1048576 py))), .int .u64 (Sp.wl (Sp.dot (Sp.lim 1048576 ax) (Sp.lim 1048576 ay) (Sp.lim 1048576 px) (Sp.lim 1048576 py) (Sp.lim 1048576 px) (Sp.lim 1048576 py)))], .int .i64 1] (show (.tuple #[.agg #[.int .i64 (Sp.wh (Sp.dot (Sp.lim 1048576 ax) (Sp.lim 1048576 ay) (Sp.lim 1048576 px) (Sp.lim 1048576 py) (Sp.lim 1048576 px) (Sp.lim 1048576 py))), .int .u64 (Sp.wl (Sp.dot (Sp.lim 1048576 ax) (Sp.lim 1048576 ay) (Sp.lim 1048576 px) (Sp.lim 1048576 py) (Sp.lim 1048576 px) (Sp.lim 1048576 py)))], .int .i64 1] : Value) = (.tuple #[.agg #[.int .i64 (Sp.wh (Sp.sqn (Sp.lim 1048576 px) (Sp.lim 1048576 py) (Sp.lim 1048576 ax) (Sp.lim 1048576 ay) (Sp.lim 1048576 bx) (Sp.lim 1048576 b_y))), .int .u64 (Sp.wl (Sp.sqn (Sp.lim 1048576 px) (Sp.lim 1048576 py) (Sp.lim 1048576 ax) (Sp.lim 1048576 ay) (Sp.lim 1048576 bx) (Sp.lim 1048576 b_y)))], .int .i64 (Sp.sqd (Sp.lim 1048576 px) (Sp.lim 1048576 py) (Sp.lim 1048576 ax) (Sp.lim 1048576 ay) (Sp.lim 1048576 bx) (Sp.lim 1048576 b_y))]) from (congrArg (fun z : List Value => Value.tuple z.toArray) (lcons (congrArg (fun z : List Value => Value.agg z.toArray) (lcons (congrArg (Value.int .i64) (show (Sp.wh (Sp.dot (Sp.lim 1048576 ax) (Sp.lim 1048576 ay) (Sp.lim 1048576 px) (Sp.lim 1048576 py) (Sp.lim 1048576 px) (Sp.lim 1048576 py))) = (Sp.wh (Sp.sqn (Sp.lim 1048576 px) (Sp.lim 1048576 py) (Sp.lim 1048576 ax) (Sp.lim 1048576 ay) (Sp.lim 1048576 bx) (Sp.lim 1048576 b_y))) from by (first | (rw [← (sc.1 (by omega)).1]; first | done | rfl | decide) | (rw [← (sc.1 (by omega)).2]; first | done | rfl | decide) | (rw [← (sc.2.1 (by omega) (by omega)).1]; first | done | rfl | decide) | (rw [← (sc.2.1 (by omega) (by omega)).2]; first | done | rfl | decide) | (rw [← (sc.2.2 (by omega) (by omega)).1]; first | done | rfl | decide) | (rw [← (sc.2.2 (by omega) (by omega)).2]; first | done | rfl | decide)))) (lcons (congrArg (Value.int .u64) (show (Sp.wl (Sp.dot (Sp.lim 1048576 ax) (Sp.lim 1048576 ay) (Sp.lim 1048576 px) (Sp.lim 1048576 py) (Sp.lim 1048576 px) (Sp.lim 1048576 py))) = (Sp.wl (Sp.sqn (Sp.lim 1048576 px) (Sp.lim 1048576 py) (Sp.lim 1048576 ax) (Sp.lim 1048576 ay) (Sp.lim 1048576 bx) (Sp.lim 1048576 b_y))) from by (first | (rw [← (sc.1 (by omega)).1]; first | done | rfl | decide) | (rw [← (sc.1 (by omega)).2]; first | done | rfl | decide) | (rw [← (sc.2.1 (by omega) (by omega)).1]; first | done | rfl | decide) | (rw [← (sc.2.1 (by omega) (by omega)).2]; first | done | rfl | decide) | (rw [← (sc.2.2 (by omega) (by omega)).1]; first | done | rfl | decide) | (rw [← (sc.2.2 (by omega) (by omega)).2]; first | done | rfl | decide)))) rfl))) (lcons (congrArg (Value.int .i64) (show 1 = (Sp.sqd (Sp.lim 1048576 px) (Sp.lim 1048576 py) (Sp.lim 1048576 ax) (Sp.lim 1048576 ay) (Sp.lim 1048576 bx) (Sp.lim 1048576 b_y)) from by (first | (rw [← (sc.1 (by omega)).1]; first | done | rfl | decide) | (rw [← (sc.1 (by omega)).2]; first | done | rfl | decide) | (rw [← (sc.2.1 (by omega) (by omega)).1]; first | done | rfl | decide) | (rw [← (sc.2.1 (by omega) (by omega)).2]; first | done | rfl | decide) | (rw [← (sc.2.2 (by omega) (by omega)).1]; first | done | rfl | decide) | (rw [← (sc.2.2 (by omega) (by omega)).2]; first | done | rfl | decide)))) rfl))))
  · have h1p : ¬ (((Sp.dot (Sp.lim 1048576 ax) (Sp.lim 1048576 ay) (Sp.lim 1048576 bx) (Sp.lim 1048576 b_y) (Sp.lim 1048576 px) (Sp.lim 1048576 py)) ≤ 0)) := by first | (simpa using h1) | (have h1q := h1; simp at h1q; omega) | (have h1q := bx2 h1; simp at h1q; omega)
    refine aw_p 239 (
      .a 4 5 <| .nil _ _) ?_
    refine aw_cd 478 479 (decide ((Sp.dot (Sp.lim 1048576 ax) (Sp.lim 1048576 ay) (Sp.lim 1048576 bx) (Sp.lim 1048576 b_y) (Sp.lim 1048576 px) (Sp.lim 1048576 py)) ≥ (Sp.dot (Sp.lim 1048576 ax) (Sp.lim 1048576 ay) (Sp.lim 1048576 bx) (Sp.lim 1048576 b_y) (Sp.lim 1048576 bx) (Sp.lim 1048576 b_y)))) (fun h2 => ?_) (fun h2 => ?_)
    · have h2p : (((Sp.dot (Sp.lim 1048576 ax) (Sp.lim 1048576 ay) (Sp.lim 1048576 bx) (Sp.lim 1048576 b_y) (Sp.lim 1048576 px) (Sp.lim 1048576 py)) ≥ (Sp.dot (Sp.lim 1048576 ax) (Sp.lim 1048576 ay) (Sp.lim 1048576 bx) (Sp.lim 1048576 b_y) (Sp.lim 1048576 bx) (Sp.lim 1048576 b_y)))) := by first | (simpa using h2) | (have h2q := h2; simp at h2q; omega) | (have h2q := bx1 h2; simp at h2q; omega)
      refine aw_p 957 (
        .a 2 5 <| .p (does_c (sq_ok bx b_y px py)) <| .p (does_c (wof_ok (Sp.dot (Sp.lim 1048576 bx) (Sp.lim 1048576 b_y) (Sp.lim 1048576 px) (Sp.lim 1048576 py) (Sp.lim 1048576 px) (Sp.lim 1048576 py)) (by omega) (by omega))) <| .a 2 5 <| .nil _ _) ?_
      refine aw_rt ?_
      refine block_ret ?_
      refine then_ret ?_
      exact en_ret [.agg #[.int .i64 (Sp.wh (Sp.dot (Sp.lim 1048576 bx) (Sp.lim 1048576 b_y) (Sp.lim 1048576 px) (Sp.lim 1048576 py) (Sp.lim 1048576 px) (Sp.lim 1048576 py))), .int .u64 (Sp.wl (Sp.dot (Sp.lim 1048576 bx) (Sp.lim 1048576 b_y) (Sp.lim 1048576 px) (Sp.lim 1048576 py) (Sp.lim 1048576 px) (Sp.lim 1048576 py)))], .int .i64 1] (show (.tuple #[.agg #[.int .i64 (Sp.wh (Sp.dot (Sp.lim 1048576 bx) (Sp.lim 1048576 b_y) (Sp.lim 1048576 px) (Sp.lim 1048576 py) (Sp.lim 1048576 px) (Sp.lim 1048576 py))), .int .u64 (Sp.wl (Sp.dot (Sp.lim 1048576 bx) (Sp.lim 1048576 b_y) (Sp.lim 1048576 px) (Sp.lim 1048576 py) (Sp.lim 1048576 px) (Sp.lim 1048576 py)))], .int .i64 1] : Value) = (.tuple #[.agg #[.int .i64 (Sp.wh (Sp.sqn (Sp.lim 1048576 px) (Sp.lim 1048576 py) (Sp.lim 1048576 ax) (Sp.lim 1048576 ay) (Sp.lim 1048576 bx) (Sp.lim 1048576 b_y))), .int .u64 (Sp.wl (Sp.sqn (Sp.lim 1048576 px) (Sp.lim 1048576 py) (Sp.lim 1048576 ax) (Sp.lim 1048576 ay) (Sp.lim 1048576 bx) (Sp.lim 1048576 b_y)))], .int .i64 (Sp.sqd (Sp.lim 1048576 px) (Sp.lim 1048576 py) (Sp.lim 1048576 ax) (Sp.lim 1048576 ay) (Sp.lim 1048576 bx) (Sp.lim 1048576 b_y))]) from (congrArg (fun z : List Value => Value.tuple z.toArray) (lcons (congrArg (fun z : List Value => Value.agg z.toArray) (lcons (congrArg (Value.int .i64) (show (Sp.wh (Sp.dot (Sp.lim 1048576 bx) (Sp.lim 1048576 b_y) (Sp.lim 1048576 px) (Sp.lim 1048576 py) (Sp.lim 1048576 px) (Sp.lim 1048576 py))) = (Sp.wh (Sp.sqn (Sp.lim 1048576 px) (Sp.lim 1048576 py) (Sp.lim 1048576 ax) (Sp.lim 1048576 ay) (Sp.lim 1048576 bx) (Sp.lim 1048576 b_y))) from by (first | (rw [← (sc.1 (by omega)).1]; first | done | rfl | decide) | (rw [← (sc.1 (by omega)).2]; first | done | rfl | decide) | (rw [← (sc.2.1 (by omega) (by omega)).1]; first | done | rfl | decide) | (rw [← (sc.2.1 (by omega) (by omega)).2]; first | done | rfl | decide) | (rw [← (sc.2.2 (by omega) (by omega)).1]; first | done | rfl | decide) | (rw [← (sc.2.2 (by omega) (by omega)).2]; first | done | rfl | decide)))) (lcons (congrArg (Value.int .u64) (show (Sp.wl (Sp.dot (Sp.lim 1048576 bx) (Sp.lim 1048576 b_y) (Sp.lim 1048576 px) (Sp.lim 1048576 py) (Sp.lim 1048576 px) (Sp.lim 1048576 py))) = (Sp.wl (Sp.sqn (Sp.lim 1048576 px) (Sp.lim 1048576 py) (Sp.lim 1048576 ax) (Sp.lim 1048576 ay) (Sp.lim 1048576 bx) (Sp.lim 1048576 b_y))) from by (first | (rw [← (sc.1 (by omega)).1]; first | done | rfl | decide) | (rw [← (sc.1 (by omega)).2]; first | done | rfl | decide) | (rw [← (sc.2.1 (by omega) (by omega)).1]; first | done | rfl | decide) | (rw [← (sc.2.1 (by omega) (by omega)).2]; first | done | rfl | decide) | (rw [← (sc.2.2 (by omega) (by omega)).1]; first | done | rfl | decide) | (rw [← (sc.2.2 (by omega) (by omega)).2]; first | done | rfl | decide)))) rfl))) (lcons (congrArg (Value.int .i64) (show 1 = (Sp.sqd (Sp.lim 1048576 px) (Sp.lim 1048576 py) (Sp.lim 1048576 ax) (Sp.lim 1048576 ay) (Sp.lim 1048576 bx) (Sp.lim 1048576 b_y)) from by (first | (rw [← (sc.1 (by omega)).1]; first | done | rfl | decide) | (rw [← (sc.1 (by omega)).2]; first | done | rfl | decide) | (rw [← (sc.2.1 (by omega) (by omega)).1]; first | done | rfl | decide) | (rw [← (sc.2.1 (by omega) (by omega)).2]; first | done | rfl | decide) | (rw [← (sc.2.2 (by omega) (by omega)).1]; first | done | rfl | decide) | (rw [← (sc.2.2 (by omega) (by omega)).2]; first | done | rfl | decide)))) rfl))))
    · have h2p : ¬ (((Sp.dot (Sp.lim 1048576 ax) (Sp.lim 1048576 ay) (Sp.lim 1048576 bx) (Sp.lim 1048576 b_y) (Sp.lim 1048576 px) (Sp.lim 1048576 py)) ≥ (Sp.dot (Sp.lim 1048576 ax) (Sp.lim 1048576 ay) (Sp.lim 1048576 bx) (Sp.lim 1048576 b_y) (Sp.lim 1048576 bx) (Sp.lim 1048576 b_y)))) := by first | (simpa using h2) | (have h2q := h2; simp at h2q; omega) | (have h2q := bx2 h2; simp at h2q; omega)
      refine aw_sk ?_
      refine block_normal ?_
      refine then_normal ?_
      refine aw_p 31 (
        .a 3 5 <| .p (does_c (cross_ok ax ay bx b_y px py)) <| .a 1 5 <| .nil _ _) ?_
      refine aw_p 63 (
        .a 2 5 <|
        .p (does_c (wmul_ok (Sp.crs (Sp.lim 1048576 ax) (Sp.lim 1048576 ay) (Sp.lim 1048576 bx) (Sp.lim 1048576 b_y) (Sp.lim 1048576 px) (Sp.lim 1048576 py)) (Sp.crs (Sp.lim 1048576 ax) (Sp.lim 1048576 ay) (Sp.lim 1048576 bx) (Sp.lim 1048576 b_y) (Sp.lim 1048576 px) (Sp.lim 1048576 py)) (by omega) (by omega) (by omega) (by omega))) <|
        .a 3 5 <| .nil _ _) ?_
      refine aw_rt ?_
      exact en_ret [.agg #[.int .i64 (Sp.wh ((Sp.crs (Sp.lim 1048576 ax) (Sp.lim 1048576 ay) (Sp.lim 1048576 bx) (Sp.lim 1048576 b_y) (Sp.lim 1048576 px) (Sp.lim 1048576 py)) * (Sp.crs (Sp.lim 1048576 ax) (Sp.lim 1048576 ay) (Sp.lim 1048576 bx) (Sp.lim 1048576 b_y) (Sp.lim 1048576 px) (Sp.lim 1048576 py)))), .int .u64 (Sp.wl ((Sp.crs (Sp.lim 1048576 ax) (Sp.lim 1048576 ay) (Sp.lim 1048576 bx) (Sp.lim 1048576 b_y) (Sp.lim 1048576 px) (Sp.lim 1048576 py)) * (Sp.crs (Sp.lim 1048576 ax) (Sp.lim 1048576 ay) (Sp.lim 1048576 bx) (Sp.lim 1048576 b_y) (Sp.lim 1048576 px) (Sp.lim 1048576 py))))], .int .i64 (Sp.dot (Sp.lim 1048576 ax) (Sp.lim 1048576 ay) (Sp.lim 1048576 bx) (Sp.lim 1048576 b_y) (Sp.lim 1048576 bx) (Sp.lim 1048576 b_y))] (show (.tuple #[.agg #[.int .i64 (Sp.wh ((Sp.crs (Sp.lim 1048576 ax) (Sp.lim 1048576 ay) (Sp.lim 1048576 bx) (Sp.lim 1048576 b_y) (Sp.lim 1048576 px) (Sp.lim 1048576 py)) * (Sp.crs (Sp.lim 1048576 ax) (Sp.lim 1048576 ay) (Sp.lim 1048576 bx) (Sp.lim 1048576 b_y) (Sp.lim 1048576 px) (Sp.lim 1048576 py)))), .int .u64 (Sp.wl ((Sp.crs (Sp.lim 1048576 ax) (Sp.lim 1048576 ay) (Sp.lim 1048576 bx) (Sp.lim 1048576 b_y) (Sp.lim 1048576 px) (Sp.lim 1048576 py)) * (Sp.crs (Sp.lim 1048576 ax) (Sp.lim 1048576 ay) (Sp.lim 1048576 bx) (Sp.lim 1048576 b_y) (Sp.lim 1048576 px) (Sp.lim 1048576 py))))], .int .i64 (Sp.dot (Sp.lim 1048576 ax) (Sp.lim 1048576 ay) (Sp.lim 1048576 bx) (Sp.lim 1048576 b_y) (Sp.lim 1048576 bx) (Sp.lim 1048576 b_y))] : Value) = (.tuple #[.agg #[.int .i64 (Sp.wh (Sp.sqn (Sp.lim 1048576 px) (Sp.lim 1048576 py) (Sp.lim 1048576 ax) (Sp.lim 1048576 ay) (Sp.lim 1048576 bx) (Sp.lim 1048576 b_y))), .int .u64 (Sp.wl (Sp.sqn (Sp.lim 1048576 px) (Sp.lim 1048576 py) (Sp.lim 1048576 ax) (Sp.lim 1048576 ay) (Sp.lim 1048576 bx) (Sp.lim 1048576 b_y)))], .int .i64 (Sp.sqd (Sp.lim 1048576 px) (Sp.lim 1048576 py) (Sp.lim 1048576 ax) (Sp.lim 1048576 ay) (Sp.lim 1048576 bx) (Sp.lim 1048576 b_y))]) from (congrArg (fun z : List Value => Value.tuple z.toArray) (lcons (congrArg (fun z : List Value => Value.agg z.toArray) (lcons (congrArg (Value.int .i64) (show (Sp.wh ((Sp.crs (Sp.lim 1048576 ax) (Sp.lim 1048576 ay) (Sp.lim 1048576 bx) (Sp.lim 1048576 b_y) (Sp.lim 1048576 px) (Sp.lim 1048576 py)) * (Sp.crs (Sp.lim 1048576 ax) (Sp.lim 1048576 ay) (Sp.lim 1048576 bx) (Sp.lim 1048576 b_y) (Sp.lim 1048576 px) (Sp.lim 1048576 py)))) = (Sp.wh (Sp.sqn (Sp.lim 1048576 px) (Sp.lim 1048576 py) (Sp.lim 1048576 ax) (Sp.lim 1048576 ay) (Sp.lim 1048576 bx) (Sp.lim 1048576 b_y))) from by (first | (rw [← (sc.1 (by omega)).1]; first | done | rfl | decide) | (rw [← (sc.1 (by omega)).2]; first | done | rfl | decide) | (rw [← (sc.2.1 (by omega) (by omega)).1]; first | done | rfl | decide) | (rw [← (sc.2.1 (by omega) (by omega)).2]; first | done | rfl | decide) | (rw [← (sc.2.2 (by omega) (by omega)).1]; first | done | rfl | decide) | (rw [← (sc.2.2 (by omega) (by omega)).2]; first | done | rfl | decide)))) (lcons (congrArg (Value.int .u64) (show (Sp.wl ((Sp.crs (Sp.lim 1048576 ax) (Sp.lim 1048576 ay) (Sp.lim 1048576 bx) (Sp.lim 1048576 b_y) (Sp.lim 1048576 px) (Sp.lim 1048576 py)) * (Sp.crs (Sp.lim 1048576 ax) (Sp.lim 1048576 ay) (Sp.lim 1048576 bx) (Sp.lim 1048576 b_y) (Sp.lim 1048576 px) (Sp.lim 1048576 py)))) = (Sp.wl (Sp.sqn (Sp.lim 1048576 px) (Sp.lim 1048576 py) (Sp.lim 1048576 ax) (Sp.lim 1048576 ay) (Sp.lim 1048576 bx) (Sp.lim 1048576 b_y))) from by (first | (rw [← (sc.1 (by omega)).1]; first | done | rfl | decide) | (rw [← (sc.1 (by omega)).2]; first | done | rfl | decide) | (rw [← (sc.2.1 (by omega) (by omega)).1]; first | done | rfl | decide) | (rw [← (sc.2.1 (by omega) (by omega)).2]; first | done | rfl | decide) | (rw [← (sc.2.2 (by omega) (by omega)).1]; first | done | rfl | decide) | (rw [← (sc.2.2 (by omega) (by omega)).2]; first | done | rfl | decide)))) rfl))) (lcons (congrArg (Value.int .i64) (show (Sp.dot (Sp.lim 1048576 ax) (Sp.lim 1048576 ay) (Sp.lim 1048576 bx) (Sp.lim 1048576 b_y) (Sp.lim 1048576 bx) (Sp.lim 1048576 b_y)) = (Sp.sqd (Sp.lim 1048576 px) (Sp.lim 1048576 py) (Sp.lim 1048576 ax) (Sp.lim 1048576 ay) (Sp.lim 1048576 bx) (Sp.lim 1048576 b_y)) from by (first | (rw [← (sc.1 (by omega)).1]; first | done | rfl | decide) | (rw [← (sc.1 (by omega)).2]; first | done | rfl | decide) | (rw [← (sc.2.1 (by omega) (by omega)).1]; first | done | rfl | decide) | (rw [← (sc.2.1 (by omega) (by omega)).2]; first | done | rfl | decide) | (rw [← (sc.2.2 (by omega) (by omega)).1]; first | done | rfl | decide) | (rw [← (sc.2.2 (by omega) (by omega)).2]; first | done | rfl | decide)))) rfl))))
theorem within_any (px py ax ay bx b_y by_ : Int) :
    AC Try.prog 51 0 ([.agg #[.int .i64 px, .int .i64 py], .agg #[.int .i64 ax, .int .i64 ay], .agg #[.int .i64 bx, .int .i64 b_y], .int .i64 by_]) [] (.bool (Sp.wthn (Sp.lim 1048576 px) (Sp.lim 1048576 py) (Sp.lim 1048576 ax) (Sp.lim 1048576 ay) (Sp.lim 1048576 bx) (Sp.lim 1048576 b_y) by_)) [] := by
  have qpx := Sp.lim_bd (m := 1048576) (by decide) px; have qpy := Sp.lim_bd (m := 1048576) (by decide) py; have qax := Sp.lim_bd (m := 1048576) (by decide) ax; have qay := Sp.lim_bd (m := 1048576) (by decide) ay; have qbx := Sp.lim_bd (m := 1048576) (by decide) bx; have qb_y := Sp.lim_bd (m := 1048576) (by decide) b_y; have sb := Sp.sq_bd (Sp.lim 1048576 px) (Sp.lim 1048576 py) (Sp.lim 1048576 ax) (Sp.lim 1048576 ay) (Sp.lim 1048576 bx) (Sp.lim 1048576 b_y) (by omega) (by omega) (by omega) (by omega) (by omega) (by omega) (by omega) (by omega) (by omega) (by omega) (by omega) (by omega); have mb := Sp.mn_by by_; have mb2 := Sp.mn_sq by_ (Sp.sqd (Sp.lim 1048576 px) (Sp.lim 1048576 py) (Sp.lim 1048576 ax) (Sp.lim 1048576 ay) (Sp.lim 1048576 bx) (Sp.lim 1048576 b_y)) (by omega) (by omega)
  refine ac_in Try.func51 (fun w0 W pin => ?_)
  refine aw_p 3 (
    .a 4 1 <| .nil _ _) ?_
  refine aw_p 7 (
    .a 3 4 <| .nil _ _) ?_
  refine aw_sq 14 15 ?_
  refine aw_p 29 (
    .a 2 4 <| .nil _ _) ?_
  refine aw_cd 58 59 (decide ((Sp.mn by_ 4194304) < 0)) (fun h1 => ?_) (fun h1 => ?_)
  · have h1p : (((Sp.mn by_ 4194304) < 0)) := by first | (simpa using h1) | (have h1q := h1; simp at h1q; omega) | (have h1q := bx1 h1; simp at h1q; omega)
    refine aw_p 117 (
      .a 1 4 <| .nil _ _) ?_
    refine aw_rt ?_
    refine then_ret ?_
    exact en_ret [.bool false] (show (.bool false : Value) = (.bool (Sp.wthn (Sp.lim 1048576 px) (Sp.lim 1048576 py) (Sp.lim 1048576 ax) (Sp.lim 1048576 ay) (Sp.lim 1048576 bx) (Sp.lim 1048576 b_y) by_)) from (congrArg Value.bool (show false = (Sp.wthn (Sp.lim 1048576 px) (Sp.lim 1048576 py) (Sp.lim 1048576 ax) (Sp.lim 1048576 ay) (Sp.lim 1048576 bx) (Sp.lim 1048576 b_y) by_) from by (first | exact (Sp.wthn_neg (by omega)).symm | (rw [Sp.wthn_pos (by omega)]; exact Sp.cmp_le_dec _ _)))))
  · have h1p : ¬ (((Sp.mn by_ 4194304) < 0)) := by first | (simpa using h1) | (have h1q := h1; simp at h1q; omega) | (have h1q := bx2 h1; simp at h1q; omega)
    refine aw_sk ?_
    refine then_normal ?_
    refine aw_p 31 (
      .a 3 4 <| .p (does_c (segsq_any px py ax ay bx b_y)) <| .a 6 4 <| .nil _ _) ?_
    refine aw_d 63 (
      .a 3 5 <| .p (does_i ((Sp.mn by_ 4194304) * (Sp.mn by_ 4194304)) (wrap_i64 (by omega) (by omega)) .i64) <| .a 1 5 <|
      .p (does_c (wmul_ok ((Sp.mn by_ 4194304) * (Sp.mn by_ 4194304)) (Sp.sqd (Sp.lim 1048576 px) (Sp.lim 1048576 py) (Sp.lim 1048576 ax) (Sp.lim 1048576 ay) (Sp.lim 1048576 bx) (Sp.lim 1048576 b_y)) (by omega) (by omega) (by omega) (by omega))) <|
      .p (does_c (wcmp_ok (Sp.sqn (Sp.lim 1048576 px) (Sp.lim 1048576 py) (Sp.lim 1048576 ax) (Sp.lim 1048576 ay) (Sp.lim 1048576 bx) (Sp.lim 1048576 b_y)) (((Sp.mn by_ 4194304) * (Sp.mn by_ 4194304)) * (Sp.sqd (Sp.lim 1048576 px) (Sp.lim 1048576 py) (Sp.lim 1048576 ax) (Sp.lim 1048576 ay) (Sp.lim 1048576 bx) (Sp.lim 1048576 b_y))) (by omega) (by omega) (by omega) (by omega))) <|
      .a 2 5 <| .nil _ _) ?_
    refine aw_rt ?_
    exact en_ret [.bool (decide ((Sp.cmp (Sp.sqn (Sp.lim 1048576 px) (Sp.lim 1048576 py) (Sp.lim 1048576 ax) (Sp.lim 1048576 ay) (Sp.lim 1048576 bx) (Sp.lim 1048576 b_y)) (((Sp.mn by_ 4194304) * (Sp.mn by_ 4194304)) * (Sp.sqd (Sp.lim 1048576 px) (Sp.lim 1048576 py) (Sp.lim 1048576 ax) (Sp.lim 1048576 ay) (Sp.lim 1048576 bx) (Sp.lim 1048576 b_y)))) ≤ 0))] (show (.bool (decide ((Sp.cmp (Sp.sqn (Sp.lim 1048576 px) (Sp.lim 1048576 py) (Sp.lim 1048576 ax) (Sp.lim 1048576 ay) (Sp.lim 1048576 bx) (Sp.lim 1048576 b_y)) (((Sp.mn by_ 4194304) * (Sp.mn by_ 4194304)) * (Sp.sqd (Sp.lim 1048576 px) (Sp.lim 1048576 py) (Sp.lim 1048576 ax) (Sp.lim 1048576 ay) (Sp.lim 1048576 bx) (Sp.lim 1048576 b_y)))) ≤ 0)) : Value) = (.bool (Sp.wthn (Sp.lim 1048576 px) (Sp.lim 1048576 py) (Sp.lim 1048576 ax) (Sp.lim 1048576 ay) (Sp.lim 1048576 bx) (Sp.lim 1048576 b_y) by_)) from (congrArg Value.bool (show (decide ((Sp.cmp (Sp.sqn (Sp.lim 1048576 px) (Sp.lim 1048576 py) (Sp.lim 1048576 ax) (Sp.lim 1048576 ay) (Sp.lim 1048576 bx) (Sp.lim 1048576 b_y)) (((Sp.mn by_ 4194304) * (Sp.mn by_ 4194304)) * (Sp.sqd (Sp.lim 1048576 px) (Sp.lim 1048576 py) (Sp.lim 1048576 ax) (Sp.lim 1048576 ay) (Sp.lim 1048576 bx) (Sp.lim 1048576 b_y)))) ≤ 0)) = (Sp.wthn (Sp.lim 1048576 px) (Sp.lim 1048576 py) (Sp.lim 1048576 ax) (Sp.lim 1048576 ay) (Sp.lim 1048576 bx) (Sp.lim 1048576 b_y) by_) from by (first | exact (Sp.wthn_neg (by omega)).symm | (rw [Sp.wthn_pos (by omega)]; exact Sp.cmp_le_dec _ _)))))
theorem within_in (px py ax ay bx b_y by_ : Int) (pxl : -1048576 ≤ px) (pxu : px ≤ 1048576) (pyl : -1048576 ≤ py) (pyu : py ≤ 1048576) (axl : -1048576 ≤ ax) (axu : ax ≤ 1048576) (ayl : -1048576 ≤ ay) (ayu : ay ≤ 1048576) (bxl : -1048576 ≤ bx) (bxu : bx ≤ 1048576) (b_yl : -1048576 ≤ b_y) (b_yu : b_y ≤ 1048576) : AC Try.prog 51 0 [.agg #[.int .i64 px, .int .i64 py], .agg #[.int .i64 ax, .int .i64 ay], .agg #[.int .i64 bx, .int .i64 b_y], .int .i64 by_] [] (.bool (Sp.wthn px py ax ay bx b_y by_)) [] := by
  have q := @within_any px py ax ay bx b_y
  simp only [Sp.lim_id pxl pxu, Sp.lim_id pyl pyu, Sp.lim_id axl axu, Sp.lim_id ayl ayu, Sp.lim_id bxl bxu, Sp.lim_id b_yl b_yu] at q
  exact q by_
end Go.Proofs.Ytadifmimefmcnaa.Am

namespace Go.Proofs.Ytadifmimefmcnaa.Am
open Go Go.Proofs
set_option maxRecDepth 100000
set_option maxHeartbeats 4000000
set_option linter.unusedVariables false
set_option linter.unusedSimpArgs false
theorem near1_ok (x y : Int) (ax ay bx b_y tol : Int) (axl : -1048576 ≤ ax) (axu : ax ≤ 1048576) (ayl : -1048576 ≤ ay) (ayu : ay ≤ 1048576) (bxl : -1048576 ≤ bx) (bxu : bx ≤ 1048576) (b_yl : -1048576 ≤ b_y) (b_yu : b_y ≤ 1048576) (xl : -1048576 ≤ x) (xu : x ≤ 1048576) (yl : -1048576 ≤ y) (yu : y ≤ 1048576) :
    AC Try.prog 105 3 ([.agg #[.int .i64 x, .int .i64 y], .pointer (some ⟨0, 0, none⟩), .pointer (some ⟨1, 0, none⟩), .pointer (some ⟨2, 0, none⟩)]) [(0, ⟨[.int .i64 ax, .int .i64 ay], 29, false, 2⟩), (1, ⟨[.int .i64 bx, .int .i64 b_y], 29, false, 2⟩), (2, ⟨[.int .i64 tol], 3, false, 1⟩)] (.bool (Sp.nrF ax ay bx b_y tol (x, y))) [] := by
  refine ac_in Try.func105 (fun w0 W pin => ?_)
  refine aw_p 3 (
    .a 2 3 <| .nil _ _) ?_
  refine aw_p 7 (
    .a 5 4 <| .p (does_c (within_in x y ax ay bx b_y (Sp.mx tol 0) (by omega) (by omega) (by omega) (by omega) (by omega) (by omega) (by omega) (by omega) (by omega) (by omega) (by omega) (by omega))) <| .a 2 4 <| .nil _ _) ?_
  refine aw_rt ?_
  exact en_ret [.bool (!(Sp.wthn x y ax ay bx b_y (Sp.mx tol 0)))] (show (.bool (!(Sp.wthn x y ax ay bx b_y (Sp.mx tol 0))) : Value) = (.bool (Sp.nrF ax ay bx b_y tol (x, y))) from (congrArg Value.bool (show (!(Sp.wthn x y ax ay bx b_y (Sp.mx tol 0))) = (Sp.nrF ax ay bx b_y tol (x, y)) from by rfl)))
theorem nri_ok (ps : List (Int × Int)) (a n : Nat) (hn : a + n ≤ ps.length) (hz : ps.length ≤ 4096) (hf : Sp.Few 1048576 ps) (ax ay bx b_y tol : Int) (axl : -1048576 ≤ ax) (axu : ax ≤ 1048576) (ayl : -1048576 ≤ ay) (ayu : ay ≤ 1048576) (bxl : -1048576 ≤ bx) (bxu : bx ≤ 1048576) (b_yl : -1048576 ≤ b_y) (b_yu : b_y ≤ 1048576)  :
    AC Try.prog 58 4 ([.slice (some ⟨0, (0 + a * 2), none⟩) n 0, .func (.func 105) #[] #[.pointer (some ⟨1, 0, none⟩), .pointer (some ⟨2, 0, none⟩), .pointer (some ⟨3, 0, none⟩)]]) [(0, ⟨(ps.flatMap ptc), 29, false, 2⟩), (1, ⟨[.int .i64 ax, .int .i64 ay], 29, false, 2⟩), (2, ⟨[.int .i64 bx, .int .i64 b_y], 29, false, 2⟩), (3, ⟨[.int .i64 tol], 3, false, 1⟩)] (.int .i64 (Sp.ixF (Sp.nrF ax ay bx b_y tol) (Sp.subL ps a n) 0)) [] := by
  refine ac_in Try.func58 (fun w0 W pin => ?_)
  refine aw_p 3 (
    .a 1 4 <| .nil _ _) ?_
  refine aw_sq 6 7 ?_
  refine aw_p 13 (
    .a 3 4 <| .nil _ _) ?_
  refine aw_bl 0 27 ?_
  refine aw_lp 55 ?_
  refine al_w [(0, .slice (some ⟨0, (0 + a * 2), none⟩) n 0), (1, .func (.func 105) #[] #[.pointer (some ⟨1, 0, none⟩), .pointer (some ⟨2, 0, none⟩), .pointer (some ⟨3, 0, none⟩)]), (7, .int .i64 ((n : Nat) : Int)), (8, .int .i64 ((0 : Nat) : Int))] [(0, ⟨(ps.flatMap ptc), 29, false, 2⟩), (1, ⟨[.int .i64 ax, .int .i64 ay], 29, false, 2⟩), (2, ⟨[.int .i64 bx, .int .i64 b_y], 29, false, 2⟩), (3, ⟨[.int .i64 tol], 3, false, 1⟩)] ?_ (hc := (by simp [closedB, valsB, valB, List.all_eq_true, List.mem_flatMap, List.mem_range, List.mem_map, i64v, ptc, flat1]; try (intros; simp [valsB, valB, flat1]); try decide))
  refine al_ind (fun i : Nat => (fun (i : Nat) => mkSt 4 [(0, .slice (some ⟨0, (0 + a * 2), none⟩) n 0), (1, .func (.func 105) #[] #[.pointer (some ⟨1, 0, none⟩), .pointer (some ⟨2, 0, none⟩), .pointer (some ⟨3, 0, none⟩)]), (7, .int .i64 ((n : Nat) : Int)), (8, .int .i64 ((i : Nat) : Int))] [(0, ⟨(ps.flatMap ptc), 29, false, 2⟩), (1, ⟨[.int .i64 ax, .int .i64 ay], 29, false, 2⟩), (2, ⟨[.int .i64 bx, .int .i64 b_y], 29, false, 2⟩), (3, ⟨[.int .i64 tol], 3, false, 1⟩)]) i) (fun i : Nat => (fun (i : Nat) => (i ≤ n) ∧ (Sp.ixF (Sp.nrF ax ay bx b_y tol) (Sp.subL ps a n) i = Sp.ixF (Sp.nrF ax ay bx b_y tol) (Sp.subL ps a n) 0)) i) (fun i : Nat => (fun (i : Nat) => n - i) i) (fun i hi1 ih1 => ?_) 0 (show (0 ≤ n) ∧ (Sp.ixF (Sp.nrF ax ay bx b_y tol) (Sp.subL ps a n) 0 = Sp.ixF (Sp.nrF ax ay bx b_y tol) (Sp.subL ps a n) 0) from ⟨by omega, by rfl⟩)
  obtain ⟨i, hv1⟩ : ∃ z, z = i := ⟨i, rfl⟩; subst hv1
  have hi1' : (i ≤ n) ∧ (Sp.ixF (Sp.nrF ax ay bx b_y tol) (Sp.subL ps a n) i = Sp.ixF (Sp.nrF ax ay bx b_y tol) (Sp.subL ps a n) 0) := hi1
  obtain ⟨hi, hh⟩ := hi1'
  show AL _ _ _ (mkSt 4 [(0, .slice (some ⟨0, (0 + a * 2), none⟩) n 0), (1, .func (.func 105) #[] #[.pointer (some ⟨1, 0, none⟩), .pointer (some ⟨2, 0, none⟩), .pointer (some ⟨3, 0, none⟩)]), (7, .int .i64 ((n : Nat) : Int)), (8, .int .i64 ((i : Nat) : Int))] [(0, ⟨(ps.flatMap ptc), 29, false, 2⟩), (1, ⟨[.int .i64 ax, .int .i64 ay], 29, false, 2⟩), (2, ⟨[.int .i64 bx, .int .i64 b_y], 29, false, 2⟩), (3, ⟨[.int .i64 tol], 3, false, 1⟩)]) _
  have fi := hf (a + i)
  refine al_round ?_
  refine aw_p 111 (
    .a 1 4 <| .nil _ _) ?_
  refine aw_sq 222 223 ?_
  refine aw_cd 444 445 (decide (((i : Nat) : Int) < ((n : Nat) : Int))) (fun h1 => ?_) (fun h1 => ?_)
  · have h1p : ((((i : Nat) : Int) < ((n : Nat) : Int))) := by first | (simpa using h1) | (have h1q := h1; simp at h1q; omega) | (have h1q := bx1 h1; simp at h1q; omega)
    have hil : i < n := by omega
    refine aw_sk ?_
    refine then_normal ?_
    refine aw_sq 446 447 ?_
    refine aw_bl 1 893 ?_
    refine aw_p 1787 (
      .a 2 4 <| .nil _ _) ?_
    refine aw_p 3575 (
      .a 3 4 <| .p (does_indexSlice (t := 24) (x := .tmp 12) (y := .tmp 13) (k := 0) (off := (0 + a * 2)) (n := n) (c := 0) (z := 2) (kd := .i64) (j := ((i : Nat) : Int)) (by kernel_rfl) (by kernel_rfl) (by kernel_rfl) (by kernel_rfl) (by kernel_rfl) (by omega) (by omega)) <|
      .p (does_load (t := 29) (x := .tmp 14) (k := 0) (off := ((0 + a * 2) + (((i : Nat) : Int)).toNat * 2)) (b := ⟨(ps.flatMap ptc), 29, false, 2⟩) (v := .agg #[.int .i64 ((ps.getD (a + i) (0, 0)).1), .int .i64 ((ps.getD (a + i) (0, 0)).2)]) (by kernel_rfl) (by kernel_rfl) (by kernel_rfl) (ldV_pair (j := (a + i)) (by kernel_rfl) (by kernel_rfl) (by omega) (by omega))) <|
      .p (does_roC [1, 2, 3] (.tmp 11) #[.pointer (some ⟨1, 0, none⟩), .pointer (some ⟨2, 0, none⟩), .pointer (some ⟨3, 0, none⟩)] #[.tmp 15] #[29] [.agg #[.int .i64 ((ps.getD (a + i) (0, 0)).1), .int .i64 ((ps.getD (a + i) (0, 0)).2)]] [(29, false), (29, false), (3, false)] (near1_ok ((ps.getD (a + i) (0, 0)).1) ((ps.getD (a + i) (0, 0)).2) ax ay bx b_y tol axl axu ayl ayu bxl bxu b_yl b_yu (by omega) (by omega) (by omega) (by omega)) (.cons (.flatB (by kernel_rfl)) (.cons (.ptr _ _ (by decide)) (.cons (.ptr _ _ (by decide)) (.cons (.ptr _ _ (by decide)) .nil)))) ⟨⟨rfl, (by kernel_rfl)⟩, ⟨rfl, (by kernel_rfl)⟩, ⟨rfl, (by kernel_rfl)⟩, trivial⟩) <| .nil _ _) ?_
    refine aw_cd 7150 7151 (Sp.nrF ax ay bx b_y tol ((ps.getD (a + i) (0, 0)).1, (ps.getD (a + i) (0, 0)).2)) (fun h2 => ?_) (fun h2 => ?_)
    · refine aw_p 14301 (
        .a 2 4 <| .nil _ _) ?_
      refine aw_rt ?_
      refine block_ret ?_
      refine then_ret ?_
      refine then_ret ?_
      refine block_ret ?_
      refine then_ret ?_
      exact en_ret [.int .i64 ((i : Nat) : Int)] (show (.int .i64 ((i : Nat) : Int) : Value) = (.int .i64 (Sp.ixF (Sp.nrF ax ay bx b_y tol) (Sp.subL ps a n) 0)) from (congrArg (Value.int .i64) (show ((i : Nat) : Int) = (Sp.ixF (Sp.nrF ax ay bx b_y tol) (Sp.subL ps a n) 0) from by (first | exact (by rw [← hh, Sp.ixS_yes hn hil (by assumption)]) | exact (by rw [← hh, Sp.ixS_end hn hge])))))
    · refine aw_sk ?_
      refine block_normal ?_
      refine then_normal ?_
      refine aw_p1 (
        .p (does_i (((i : Nat) : Int) + 1) (wrap_i64 (by omega) (by omega)) .i64) <| .a 1 4 <| .nil _ _) ?_
      refine then_normal ?_
      refine al_w [(0, .slice (some ⟨0, (0 + a * 2), none⟩) n 0), (1, .func (.func 105) #[] #[.pointer (some ⟨1, 0, none⟩), .pointer (some ⟨2, 0, none⟩), .pointer (some ⟨3, 0, none⟩)]), (7, .int .i64 ((n : Nat) : Int)), (8, .int .i64 (((i + 1) : Nat) : Int))] [(0, ⟨(ps.flatMap ptc), 29, false, 2⟩), (1, ⟨[.int .i64 ax, .int .i64 ay], 29, false, 2⟩), (2, ⟨[.int .i64 bx, .int .i64 b_y], 29, false, 2⟩), (3, ⟨[.int .i64 tol], 3, false, 1⟩)] ?_ (hc := (by simp [closedB, valsB, valB, List.all_eq_true, List.mem_flatMap, List.mem_range, List.mem_map, i64v, ptc, flat1]; try (intros; simp [valsB, valB, flat1]); try decide))
      exact ih1 (i + 1) (show ((i + 1) ≤ n) ∧ (Sp.ixF (Sp.nrF ax ay bx b_y tol) (Sp.subL ps a n) (i + 1) = Sp.ixF (Sp.nrF ax ay bx b_y tol) (Sp.subL ps a n) 0) from ⟨by omega, by (rw [← hh]; exact Sp.ixS_no hn hil (by assumption))⟩) (show n - (i + 1) < n - i from by omega)
  · have h1p : ¬ ((((i : Nat) : Int) < ((n : Nat) : Int))) := by first | (simpa using h1) | (have h1q := h1; simp at h1q; omega) | (have h1q := bx2 h1; simp at h1q; omega)
    have hge : ¬ i < n := by omega
    refine aw_ex 0 ?_
    refine then_exit ?_
    refine then_exit ?_
    refine block_exit ?_
    refine then_normal ?_
    refine aw_p 15 (
      .a 1 4 <| .nil _ _) ?_
    refine aw_rt ?_
    exact en_ret [.int .i64 (-1)] (show (.int .i64 (-1) : Value) = (.int .i64 (Sp.ixF (Sp.nrF ax ay bx b_y tol) (Sp.subL ps a n) 0)) from (congrArg (Value.int .i64) (show (-1) = (Sp.ixF (Sp.nrF ax ay bx b_y tol) (Sp.subL ps a n) 0) from by (first | exact (by rw [← hh, Sp.ixS_yes hn hil (by assumption)]) | exact (by rw [← hh, Sp.ixS_end hn hge])))))
end Go.Proofs.Ytadifmimefmcnaa.Am

namespace Go.Proofs.Ytadifmimefmcnaa.Am
open Go Go.Proofs
set_option maxRecDepth 100000
set_option maxHeartbeats 4000000
set_option linter.unusedVariables false
set_option linter.unusedSimpArgs false
theorem nrc_ok (ps : List (Int × Int)) (a n : Nat) (hn : a + n ≤ ps.length) (hz : ps.length ≤ 4096) (hf : Sp.Few 1048576 ps) (ax ay bx b_y tol : Int) (axl : -1048576 ≤ ax) (axu : ax ≤ 1048576) (ayl : -1048576 ≤ ay) (ayu : ay ≤ 1048576) (bxl : -1048576 ≤ bx) (bxu : bx ≤ 1048576) (b_yl : -1048576 ≤ b_y) (b_yu : b_y ≤ 1048576)  :
    AC Try.prog 19 4 ([.slice (some ⟨0, (0 + a * 2), none⟩) n 0, .func (.func 105) #[] #[.pointer (some ⟨1, 0, none⟩), .pointer (some ⟨2, 0, none⟩), .pointer (some ⟨3, 0, none⟩)]]) [(0, ⟨(ps.flatMap ptc), 29, false, 2⟩), (1, ⟨[.int .i64 ax, .int .i64 ay], 29, false, 2⟩), (2, ⟨[.int .i64 bx, .int .i64 b_y], 29, false, 2⟩), (3, ⟨[.int .i64 tol], 3, false, 1⟩)] (.bool ((Sp.subL ps a n).any (Sp.nrF ax ay bx b_y tol))) [] := by
  refine ac_in Try.func19 (fun w0 W pin => ?_)
  refine aw_p 3 (
    .a 1 4 <| .nil _ _) ?_
  refine aw_p 7 (
    .a 2 4 <|
    .p (does_ro [0, 1, 2, 3] #[.tmp 5, .tmp 6] #[24, 34] [.slice (some ⟨0, (0 + a * 2), none⟩) n 0, .func (.func 105) #[] #[.pointer (some ⟨1, 0, none⟩), .pointer (some ⟨2, 0, none⟩), .pointer (some ⟨3, 0, none⟩)]] [(29, false), (29, false), (29, false), (3, false)] (nri_ok ps a n hn hz hf ax ay bx b_y tol axl axu ayl ayu bxl bxu b_yl b_yu) (.cons (.slice _ _ _ _ _ (by decide)) (.cons (.funcL (.flats (by kernel_rfl)) (.cons (.ptr _ _ (by decide)) (.cons (.ptr _ _ (by decide)) (.cons (.ptr _ _ (by decide)) .nil)))) .nil)) ⟨⟨rfl, flats_pair _⟩, ⟨rfl, (by kernel_rfl)⟩, ⟨rfl, (by kernel_rfl)⟩, ⟨rfl, (by kernel_rfl)⟩, trivial⟩) <|
    .p (does_b ((Sp.subL ps a n).any (Sp.nrF ax ay bx b_y tol)) (Sp.ixF_any _ _)) <| .a 1 4 <| .nil _ _) ?_
  refine aw_rt ?_
  exact en_ret [.bool ((Sp.subL ps a n).any (Sp.nrF ax ay bx b_y tol))] (by kernel_rfl)
theorem near_ok (ps : List (Int × Int)) (u v : Nat) (tol : Int) (huv : u < v ∧ v < ps.length) (hz : ps.length ≤ 4096) (hf : Sp.Few 1048576 ps) :
    AC Try.prog 67 1 ([.slice (some ⟨0, (0 + (u + 1) * 2), none⟩) (v - (u + 1)) 0, .agg #[.int .i64 ((ps.getD u (0, 0)).1), .int .i64 ((ps.getD u (0, 0)).2)], .agg #[.int .i64 ((ps.getD v (0, 0)).1), .int .i64 ((ps.getD v (0, 0)).2)], .int .i64 tol]) [(0, ⟨(ps.flatMap ptc), 29, false, 2⟩)] (.bool (Sp.nearB tol ps u v)) [] := by
  have fu := hf u; have fv := hf v
  refine ac_in Try.func67 (fun w0 W pin => ?_)
  refine aw_p 3 (
    .a 4 1 <| .nil _ _) ?_
  refine aw_p 7 (
    .a 2 4 <|
    .p (does_ro [0, 1, 2, 3] #[.tmp 9, .tmp 10] #[24, 34] [.slice (some ⟨0, (0 + (u + 1) * 2), none⟩) (v - (u + 1)) 0, .func (.func 105) #[] #[.pointer (some ⟨1, 0, none⟩), .pointer (some ⟨2, 0, none⟩), .pointer (some ⟨3, 0, none⟩)]] [(29, false), (29, true), (29, true), (3, true)] (nrc_ok ps (u + 1) (v - (u + 1)) (by omega) (by omega) hf ((ps.getD u (0, 0)).1) ((ps.getD u (0, 0)).2) ((ps.getD v (0, 0)).1) ((ps.getD v (0, 0)).2) tol (by omega) (by omega) (by omega) (by omega) (by omega) (by omega) (by omega) (by omega)) (.cons (.slice _ _ _ _ _ (by decide)) (.cons (.funcL (.flats (by kernel_rfl)) (.cons (.ptr _ _ (by decide)) (.cons (.ptr _ _ (by decide)) (.cons (.ptr _ _ (by decide)) .nil)))) .nil)) ⟨⟨rfl, flats_pair _⟩, ⟨rfl, (by kernel_rfl)⟩, ⟨rfl, (by kernel_rfl)⟩, ⟨rfl, (by kernel_rfl)⟩, trivial⟩) <|
    .a 2 4 <| .nil _ _) ?_
  refine aw_rt ?_
  exact en_ret [.bool (!((Sp.subL ps (u + 1) (v - (u + 1))).any (Sp.nrF ((ps.getD u (0, 0)).1) ((ps.getD u (0, 0)).2) ((ps.getD v (0, 0)).1) ((ps.getD v (0, 0)).2) tol)))] (show (.bool (!((Sp.subL ps (u + 1) (v - (u + 1))).any (Sp.nrF ((ps.getD u (0, 0)).1) ((ps.getD u (0, 0)).2) ((ps.getD v (0, 0)).1) ((ps.getD v (0, 0)).2) tol))) : Value) = (.bool (Sp.nearB tol ps u v)) from (congrArg Value.bool (show (!((Sp.subL ps (u + 1) (v - (u + 1))).any (Sp.nrF ((ps.getD u (0, 0)).1) ((ps.getD u (0, 0)).2) ((ps.getD v (0, 0)).1) ((ps.getD v (0, 0)).2) tol))) = (Sp.nearB tol ps u v) from by (exact Sp.nearB_any.symm))))
end Go.Proofs.Ytadifmimefmcnaa.Am

namespace Go.Proofs.Ytadifmimefmcnaa.Am
open Go Go.Proofs Go.RowKit Go.Shelf Go.Lib
set_option maxRecDepth 100000 in
set_option maxHeartbeats 4000000 in
theorem del_raw (blk off cap t j n : Nat) (w W1 W2 : World) (i0 : TypeInfo) (hi0 : Try.prog.info? 29 = some i0) (hz1 : i0.size = 2) (hcap : n ≤ cap) (hij : t ≤ j) (hlt : t < j) (hj : j ≤ n) (news : List Value) (hn : news.length = (n - j) * 2)
    (A : Addr) (hA : (if cap = j then (some ⟨blk, off, none⟩ : Option Addr) else some ⟨blk, off + j * 2, none⟩) = some A) (hsrc : ∀ q u, news[q]? = some u → w.drew.cell? (A.add q) = some u) (h1c : ∀ u ∈ news, u.oneCell' = true)
    (s3 : ∀ q, q < news.length → (w.drew.cell? ⟨blk, off + t * 2 + q, none⟩).isSome = true ∧ w.drew.frozen? ⟨blk, off + t * 2 + q, none⟩ = false) (hW1 : W1 = w.drew.setCells blk (off + t * 2) news)
    (hcl : ∀ ty, (Builtin.clear_ #[24] ty #[.slice (some ⟨blk, off + (t + (n - j)) * 2, none⟩) (n - (t + (n - j))) (cap - (t + (n - j)))]).run Try.prog W1 = .ok (.tuple #[]) W2) :
    Calls Try.prog 69 #[.slice (some ⟨blk, off, none⟩) n cap, .int .i64 ((t : Nat) : Int), .int .i64 ((j : Nat) : Int)] w fun e w' => e = .returned (.slice (some ⟨blk, off, none⟩) (t + (n - j)) cap) ∧ w' = W2 := by
  have hic : t ≤ cap := by omega
  have hjc : j ≤ cap := by omega
  have mixed : Try.prog.follows .mixedOrders = true := by kernel_rfl
  have t24 : Try.prog.underlying 24 = some (.slice 29) := by kernel_rfl
  have hW : Hid (W1 = w.drew.setCells blk (off + t * 2) news) := hW1
  have hn' : Hid (news.length = (n - j) * 2) := hn
  have hs' : Hid (∀ q u, news[q]? = some u → w.drew.cell? (A.add q) = some u) := hsrc
  have h1' : Hid (∀ u ∈ news, u.oneCell' = true) := h1c
  have s3' : Hid (∀ q, q < news.length → (w.drew.cell? ⟨blk, off + t * 2 + q, none⟩).isSome = true ∧ w.drew.frozen? ⟨blk, off + t * 2 + q, none⟩ = false) := s3
  clear hW1 hn hsrc h1c s3
  refine calls_of_wp Try.func69 rfl ?_
  simp only [Try.ntmps69, List.size_toArray, List.length_cons, List.length_nil, Nat.reduceAdd, Nat.reduceSub, Array.replicate_succ, Array.replicate_zero, List.push_toArray, List.append_toArray, List.nil_append, List.cons_append]
  go_wp2_with fail
  go_region_law_o (refine step_append_room rfl (.tmp 22) (.tmp 25) 24 rfl 29 i0 2 t24 hi0 hz1 blk off t cap (by simp [Act.eval, Act.put]) A (n - j) (cap - j) news (by simp [Act.eval, Act.put]) hn'.out hs'.out h1'.out (by omega) s3'.out ?_; rw [← hW.out])
  go_wp2
  go_ret
  exact ⟨rfl, rfl⟩
theorem pts_get (ps : List (Int × Int)) (q : Nat) (u : Value) (h : (ps.flatMap ptc)[q]? = some u) : flatB u = true ∧ plainB u = true := by
  obtain ⟨p, _, hp⟩ := List.mem_flatMap.1 (List.mem_of_getElem? h)
  simp only [ptc, List.mem_cons, List.not_mem_nil, or_false] at hp
  rcases hp with rfl | rfl <;> exact ⟨rfl, rfl⟩
theorem one_of_plain {u : Value} (h : plainB u = true) (hf : flatB u = true) : u.oneCell' = true := plain_rel (ρ := fun _ => none) (.of_only (only_flat hf)) h
theorem del_ok (ps : List (Int × Int)) (t : Nat) (ht : t < ps.length) : AC Try.prog 69 1 [.slice (some ⟨0, 0, none⟩) ps.length 0, .int .i64 ((t : Nat) : Int), .int .i64 ((t + 1 : Nat) : Int)] [(0, ⟨ps.flatMap ptc, 29, true, 2⟩)] (.slice (some ⟨0, 0, none⟩) (ps.length - 1) 0) [(0, ⟨(ps.eraseIdx t).flatMap ptc, 29, true, 2⟩)] := by
  intro ρ w args' hl ha hp hlow hhigh
  obtain ⟨a0, e0, r0⟩ := ha 0 _ rfl
  obtain ⟨a1, e1, r1⟩ := ha 1 _ rfl
  obtain ⟨a2, e2, r2⟩ := ha 2 _ rfl
  have r1 := r1.eq_of_only (.int _ _)
  have r2 := r2.eq_of_only (.int _ _)
  subst r1 r2
  obtain ⟨n, hn⟩ : ∃ n, n = ps.length := ⟨_, rfl⟩
  rw [← hn] at r0
  cases r0 with
  | slice0 => omega
  | slice _ _ _ _ cap sp hk hc hs =>
    have hargs : args' = #[.slice (some ⟨sp.block, sp.off + 0, none⟩) n cap, .int .i64 ((t : Nat) : Int), .int .i64 ((t + 1 : Nat) : Int)] := by
      apply Array.ext'
      apply List.ext_getElem?
      intro q
      match q with
      | 0 => simpa using e0
      | 1 => simpa using e1
      | 2 => simpa using e2
      | q + 3 => rw [List.getElem?_eq_none_iff.2 (by simp at hl ⊢; omega)]; simp
    subst hargs
    obtain ⟨sp', hk', bok⟩ := hp.live 0 _ List.mem_cons_self
    rw [hk] at hk'; cases hk'
    have bo := bok
    rw [BlkOk.own rfl] at bo
    obtain ⟨hst, c, hg, hcs, hcl, hcc⟩ := bo
    have hst : sp.step = 2 := hst
    rw [hst] at hs
    have hcl : (ps.flatMap ptc).length ≤ sp.size := hcl
    rw [pairs_length] at hcl
    have hget : ∀ (q : Nat) (u : Value), (ps.flatMap ptc)[q]? = some u → c[sp.off + q]? = some u := fun q u hu => by
      obtain ⟨v, h1, h2⟩ := hcc q u hu
      have := h2.eq_of_only (only_flat (pts_get ps q u hu).1)
      rw [h1, this]
    obtain ⟨i0, hi0, hz1⟩ : ∃ i0, Try.prog.info? 29 = some i0 ∧ i0.size = 2 := by
      have h : (Try.prog.info? 29).map (·.size) = some 2 := by kernel_rfl
      obtain ⟨i0, h1, h2⟩ := Option.map_eq_some_iff.1 h
      exact ⟨i0, h1, h2⟩
    -- what is moved
    obtain ⟨news, hnews⟩ : ∃ news, news = (ps.drop (t + 1)).flatMap ptc := ⟨_, rfl⟩
    have hlen : news.length = (n - (t + 1)) * 2 := by rw [hnews, pairs_length, List.length_drop]; omega
    have hnq : ∀ q, news[q]? = (ps.flatMap ptc)[2 * (t + 1) + q]? := fun q => by rw [hnews, ← pairs_drop, List.getElem?_drop]
    have hnf : ∀ u ∈ news, flatB u = true ∧ plainB u = true := fun u hu => by
      obtain ⟨q, hq, e⟩ := List.getElem_of_mem hu
      exact pts_get ps (2 * (t + 1) + q) u (by rw [← hnq, List.getElem?_eq_getElem hq, e])
    have hgd : w.drew.heap[sp.block]? = some (.cells c 29 (0, 0)) := hg
    have cellw : ∀ q, w.drew.cell? ⟨sp.block, q, none⟩ = c[q]? := fun q => cell_of_row w.drew sp.block q c 29 (0, 0) hgd
    have fin : ∀ q u, ((ps.eraseIdx t).flatMap ptc)[q]? = some u → (q < 2 * t ∧ (ps.flatMap ptc)[q]? = some u) ∨ (2 * t ≤ q ∧ news[q - 2 * t]? = some u) := fun q u hu => by
      rw [List.eraseIdx_eq_take_drop_succ, List.flatMap_append] at hu
      have hl1 : ((ps.take t).flatMap ptc).length = 2 * t := by rw [pairs_length, List.length_take]; omega
      rcases Nat.lt_or_ge q (2 * t) with hq | hq
      · refine .inl ⟨hq, ?_⟩
        rw [List.getElem?_append_left (by omega)] at hu
        have : ps.flatMap ptc = (ps.take t).flatMap ptc ++ (ps.drop t).flatMap ptc := by rw [← List.flatMap_append, List.take_append_drop]
        rw [this, List.getElem?_append_left (by omega)]; exact hu
      · refine .inr ⟨hq, ?_⟩
        rw [List.getElem?_append_right (by omega), hl1] at hu
        rw [hnews]; exact hu
    have hel : ((ps.eraseIdx t).flatMap ptc).length = 2 * (n - 1) := by rw [pairs_length, List.length_eraseIdx_of_lt ht]; omega
    have s3 : ∀ q, q < news.length → (w.drew.cell? ⟨sp.block, sp.off + t * 2 + q, none⟩).isSome = true ∧ w.drew.frozen? ⟨sp.block, sp.off + t * 2 + q, none⟩ = false := fun q hq => by
      rw [cellw]
      exact ⟨by rw [Array.getElem?_eq_getElem (by omega)]; rfl, frozen_of_row w.drew sp.block _ c 29 hgd⟩
    -- the world behind the append
    obtain ⟨w1, c1, b1, b2, b3, b4, b5, b6, b7, b8, b9⟩ := run_storeCells (P := Try.prog) (ρ := ρ) (blk := sp.block) (o := sp.off) (e := 29) (fin := (ps.eraseIdx t).flatMap ptc) news news w.drew c (t * 2) 0 hgd (by omega) rfl
      (fun u hu => (hnf u hu).2) (fun q u hu => ⟨u, hu, .of_only (only_flat (hnf u (List.mem_of_getElem? hu)).1)⟩)
      (fun q u hu => by
        rw [List.eraseIdx_eq_take_drop_succ, List.flatMap_append]
        have hl1 : ((ps.take t).flatMap ptc).length = 2 * t := by rw [pairs_length, List.length_take]; omega
        rw [List.getElem?_append_right (by omega), hl1, show t * 2 + 0 + q - 2 * t = q by omega, ← hnews]; exact hu)
      (fun q u hq hu => by
        rcases fin q u hu with ⟨h1, h2⟩ | ⟨h1, h2⟩
        · exact ⟨u, hget q u h2, .of_only (only_flat (pts_get ps q u h2).1)⟩
        · obtain ⟨hh, _⟩ := List.getElem?_eq_some_iff.1 h2
          omega)
    have hw1 : w1 = w.drew.setCells sp.block (sp.off + t * 2) news := by
      have := run_storeCells_cells (P := Try.prog) sp.block (sp.off + t * 2) news 0 w.drew (fun q hq => (s3 q hq).1) (fun q hq => (s3 q hq).2) (fun u hu => one_of_plain (hnf u hu).2 (hnf u hu).1)
      rw [b1] at this
      simp only [Result.ok.injEq, Nat.add_zero, true_and] at this
      exact this
    -- behind the clearing
    obtain ⟨w2, c2, d1, d2, d3, d4, d5, d6, d7, d8, d9⟩ := run_storeCells (P := Try.prog) (ρ := ρ) (blk := sp.block) (o := sp.off) (e := 29) (fin := (ps.eraseIdx t).flatMap ptc ++ [.int .i64 0, .int .i64 0]) [.int .i64 0, .int .i64 0] [.int .i64 0, .int .i64 0] w1 c1 ((t + (n - (t + 1))) * 2) 0 b2 (by simp; omega) rfl
      (fun u hu => by simp at hu; subst hu; rfl) (fun q u hu => ⟨u, hu, by
        have hm := List.mem_of_getElem? hu
        simp at hm; subst hm; exact .int _ _⟩)
      (fun q u hu => by
        rw [List.getElem?_append_right (by omega), hel, show (t + (n - (t + 1))) * 2 + 0 + q - 2 * (n - 1) = q by omega]; exact hu)
      (fun q u hq hu => by
        simp only [List.length_cons, List.length_nil] at hq
        rcases Nat.lt_or_ge q (2 * (n - 1)) with h | h
        · rw [List.getElem?_append_left (by omega)] at hu; exact b4 q u hu
        · rw [List.getElem?_append_right (by omega)] at hu
          obtain ⟨hh, _⟩ := List.getElem?_eq_some_iff.1 hu
          have hh : q - ((ps.eraseIdx t).flatMap ptc).length < 2 := hh
          omega)
    have hclr : ∀ ty, (Builtin.clear_ #[24] ty #[.slice (some ⟨sp.block, sp.off + (t + (n - (t + 1))) * 2, none⟩) (n - (t + (n - (t + 1)))) (cap - (t + (n - (t + 1))))]).run Try.prog w1 = .ok (.tuple #[]) w2 := fun ty => by
      have hu : Try.prog.underlying 24 = some (.slice 29) := by kernel_rfl
      have hz : (zeroValue 29).run Try.prog w1 = .ok (.agg #[.int .i64 0, .int .i64 0]) w1 := run_zeroOf (by kernel_rfl) w1
      rw [show n - (t + (n - (t + 1))) = 0 + 1 by omega]
      have hzc : (Builtin.zeroCells (Value.agg #[.int .i64 0, .int .i64 0]).cells (0 + 1)).toList = [.int .i64 0, .int .i64 0] := by kernel_rfl
      simp only [Builtin.clear_, List.getElem?_toArray, List.getElem?_cons_zero, Sem.run_bind, run_underlying hu, Result.andThen_ok, hz, hzc, d1, Sem.run_pure]
    obtain ⟨A, hA, hsrc⟩ : ∃ A : Addr, (if cap = t + 1 then (some ⟨sp.block, sp.off + 0, none⟩ : Option Addr) else some ⟨sp.block, sp.off + 0 + (t + 1) * 2, none⟩) = some A ∧ (∀ q u, news[q]? = some u → w.drew.cell? (A.add q) = some u) := by
      by_cases h : cap = t + 1
      · refine ⟨_, if_pos h, fun q u hu => ?_⟩
        obtain ⟨hh, _⟩ := List.getElem?_eq_some_iff.1 hu
        omega
      · refine ⟨_, if_neg h, fun q u hu => ?_⟩
        rw [add_at, cellw]
        rw [hnq] at hu
        have := hget _ u hu
        rw [show sp.off + 0 + (t + 1) * 2 + q = sp.off + (2 * (t + 1) + q) by omega]; exact this
    have main := del_raw sp.block (sp.off + 0) cap t (t + 1) n w w1 w2 i0 hi0 hz1 hc (by omega) (by omega) (by omega) news hlen A hA hsrc (fun u hu => one_of_plain (hnf u hu).2 (hnf u hu).1) s3 hw1 hclr
    refine main.mono ?_
    rintro e w' ⟨rfl, rfl⟩
    have hfr : FrameOk w (OwnSet ρ [(0, ⟨ps.flatMap ptc, 29, true, 2⟩)]) w' := by
      refine ⟨by rw [d6, b6]; rfl, by rw [d7, b7]; rfl, by rw [d8, b8]; rfl, by rw [d5, b5]; exact Nat.le_refl _, fun b hb hW => ?_⟩
      have hne : b ≠ sp.block := fun e => hW ⟨0, _, sp, List.mem_cons_self, rfl, hk, e.symm⟩
      rw [d9 b hne, b9 b hne]; rfl
    refine ⟨_, ρ, rfl, ?_, fun _ _ => rfl, ⟨fun k b hb => ?_, fun k k' b b' sp1 sp2 hne h1 h2 => ?_⟩, fun k b sp1 hk1 hb => ?_, hfr⟩
    · have := VRel.slice (ρ := ρ) 0 0 (t + (n - (t + 1))) 0 cap sp hk (by omega) (by rw [hst]; omega)
      rw [show ps.length - 1 = t + (n - (t + 1)) by omega]; exact this
    · simp only [List.mem_cons, List.not_mem_nil, or_false, Prod.mk.injEq] at hb
      obtain ⟨rfl, rfl⟩ := hb
      refine ⟨sp, hk, ?_⟩
      rw [BlkOk.own rfl]
      refine ⟨hst, c2, d2, by rw [d3, b3]; exact hcs, by show ((ps.eraseIdx t).flatMap ptc).length ≤ _; omega, fun q u hu => ?_⟩
      have hu : ((ps.eraseIdx t).flatMap ptc)[q]? = some u := hu
      obtain ⟨hh, _⟩ := List.getElem?_eq_some_iff.1 hu
      exact d4 q u (by rw [List.getElem?_append_left hh]; exact hu)
    · simp only [List.mem_cons, List.not_mem_nil, or_false, Prod.mk.injEq] at h1 h2
      exact absurd (h1.1.trans h2.1.symm) hne
    · simp only [List.mem_cons, List.not_mem_nil, or_false, Prod.mk.injEq] at hb
      omega
end Go.Proofs.Ytadifmimefmcnaa.Am

namespace Go.Proofs.Ytadifmimefmcnaa.Am
open Go Go.Proofs
set_option maxRecDepth 100000
set_option maxHeartbeats 4000000
set_option linter.unusedVariables false
set_option linter.unusedSimpArgs false
theorem del_app_ok (kl x : List (Int × Int)) (f : Nat) (hf : f < x.length) : AC Try.prog 69 1 [.slice (some ⟨0, 0, none⟩) (kl ++ x.drop f).length 0, .int .i64 ((kl.length : Nat) : Int), .int .i64 ((kl.length + 1 : Nat) : Int)] [(0, ⟨((kl ++ x.drop f).flatMap ptc), 29, true, 2⟩)] (.slice (some ⟨0, 0, none⟩) (kl ++ x.drop (f + 1)).length 0) [(0, ⟨((kl ++ x.drop (f + 1)).flatMap ptc), 29, true, 2⟩)] := by
  have h := del_ok (kl ++ x.drop f) kl.length (by rw [List.length_append, List.length_drop]; omega)
  rw [show (kl ++ x.drop f).eraseIdx kl.length = kl ++ x.drop (f + 1) from Sp.del_app hf, show (kl ++ x.drop f).length - 1 = (kl ++ x.drop (f + 1)).length from by simp only [List.length_append, List.length_drop]; omega] at h
  exact h
end Go.Proofs.Ytadifmimefmcnaa.Am

namespace Go.Proofs.Ytadifmimefmcnaa.Am
open Go Go.Proofs
set_option maxRecDepth 100000
set_option maxHeartbeats 4000000
set_option linter.unusedVariables false
set_option linter.unusedSimpArgs false
theorem clone_ro (ps : List (Int × Int)) (hn : 1 ≤ ps.length) (hz : ps.length ≤ 4096) :
    AC Try.prog 66 1 ([.slice (some ⟨0, 0, none⟩) ps.length 0]) [(0, ⟨(ps.flatMap ptc), 29, false, 2⟩)] (.slice (some ⟨1, 0, none⟩) ps.length 0) [(1, ⟨(ps.flatMap ptc), 29, true, 2⟩)] := by
  refine ac_in Try.func66 (fun w0 W pin => ?_)
  refine aw_p 3 (
    .a 1 2 <| .nil _ _) ?_
  refine aw_sq 6 7 ?_
  refine aw_p 13 (
    .a 1 2 <| .p (does_sln (k := 0) (off := 0) (n := ps.length) (c := 0) (by kernel_rfl) (by omega)) <| .nil _ _) ?_
  refine aw_fl 27 ?_
  refine aw_sk ?_
  refine then_normal ?_
  refine aw_p 15 (
    .a 2 2 <|
    .p (does_apg ps.length 1 29 2 16 2 0 0 0 ps.length ⟨[], 29, true, 2⟩ ⟨(ps.flatMap ptc), 29, false, 2⟩ (ps.flatMap ptc) (by kernel_rfl) (by kernel_rfl) (by kernel_rfl) (by kernel_rfl) (by kernel_rfl) (plain_pairs _) (by rw [Nat.zero_mul]; exact Nat.zero_le _) (by show _ ≤ (ps.flatMap ptc).length; rw [pairs_length]; omega) (.inl hn) (by omega) (by omega) (by show List.take _ [] ++ ((ps.flatMap ptc).drop _).take _ = _; rw [cut_pairs (j := 0) (k := ps.length) (by omega) (by omega), List.drop_zero, List.take_length, List.take_nil, List.nil_append]) (by omega)) <|
    .a 1 3 <| .nil _ _) ?_
  refine aw_rt ?_
  exact en_ret [.slice (some ⟨1, 0, none⟩) ps.length 0] (by kernel_rfl)
end Go.Proofs.Ytadifmimefmcnaa.Am

namespace Go.Proofs.Ytadifmimefmcnaa.Am
open Go Go.Proofs
set_option maxRecDepth 100000
set_option maxHeartbeats 4000000
set_option linter.unusedVariables false
set_option linter.unusedSimpArgs false
theorem keep_ok (X : List Row) (tol : Int) (hc : Sp.lnsE X = 0) :
    AC Try.prog 25 (1 + X.length) [.slice (some ⟨0, 0, none⟩) X.length 0, .int .i64 tol] (famP 24 29 X) (.tuple #[.slice (some ⟨1 + X.length, 0, none⟩) (Sp.keepN tol X X.length).length 0, .int .i64 0]) (famQ 24 29 (1 + X.length) (Sp.keepN tol X X.length)) := by
  obtain ⟨hx1, ho, hx2, hlin⟩ := Sp.lns_ok hc; have hsz : ∀ i, i < X.length → 2 ≤ (X.getD i []).length ∧ (X.getD i []).length ≤ 200 := (fun i hi => ⟨(Sp.rowE_0 (ho i hi)).1, (Sp.rowE_0 (ho i hi)).2.1⟩)
  refine acK 1 (by decide) Try.func25 ⟨.slice _ _ _ _ rfl, only_flat rfl, trivial⟩ (fun w0 W pin => ?_)
  refine aw_p 3 (
    .a 2 1 <| .nil _ _) ?_
  refine aw_sq 6 7 ?_
  refine aw_p 13 (
    .a 1 1 <|
    .p (does_fam 0 (· + 200) #[.tmp 17] #[36] [.slice (some ⟨0, 0, none⟩) X.length 0] ((by have h := check_ok X (fun i => by by_cases hi : i < X.length; exact Nat.le_trans (hsz i hi).2 (by decide); rw [List.getD_eq_getElem?_getD, List.getElem?_eq_none_iff.2 (by omega)]; simp) (by omega); rw [hc] at h; exact h)) ⟨24, false, by kernel_rfl⟩ (fun j _ => ⟨29, false, by kernel_rfl⟩) (show RenL (famS 0 (· + 200)) (· < 1 + X.length) [.slice (some ⟨0, 0, none⟩) X.length 0] [.slice (some ⟨0, 0, none⟩) X.length 0] from (.cons (.slice 0 _ _ _ _ (by show 0 < 1 + _; omega)) .nil))) <|
    .a 1 1 <| .nil _ _) ?_
  refine aw_p 27 (
    .a 2 1 <| .nil _ _) ?_
  refine aw_fl 55 ?_
  refine aw_sk ?_
  refine then_normal ?_
  refine aw_weak (keep_start (X := X) (TP := 29) (TH := 24) (T := [(0, .slice (some ⟨0, 0, none⟩) X.length 0), (1, .int .i64 tol)]) rfl (by kernel_rfl) (by kernel_rfl) (by kernel_rfl) (by intro j; kernel_rfl)) ?_
  refine aw_p 15 (
    .a 2 1 <|
    .p (does_mk (kl := .i64) (kc := .i64) (n' := ((X.length : Nat) : Int)) (c' := ((X.length : Nat) : Int)) 1 24 1 24 X.length X.length (.slice none 0 0) (hdc nB X 0) (by kernel_rfl) (by kernel_rfl) (by rw [hdc_0]; exact flat_nils _) ((made_nils _).trans (hdc_0 nB X).symm) rfl rfl (Nat.le_refl _) (by omega) (by omega)) <|
    .a 1 2 <| .nil _ _) ?_
  refine aw_sq 30 31 ?_
  refine aw_p 61 (
    .a 3 2 <| .nil _ _) ?_
  refine aw_bl 0 123 ?_
  refine aw_lp 247 ?_
  refine al_wF [(0, .slice (some ⟨0, 0, none⟩) X.length 0), (1, .int .i64 tol), (7, .slice (some ⟨1, 0, none⟩) X.length 0), (25, .slice (some ⟨0, 0, none⟩) X.length 0), (26, .int .i64 ((X.length : Nat) : Int)), (27, .int .i64 ((0 : Nat) : Int))] [(0, ⟨(hds nA X), 24, false, 1⟩), (1, ⟨(hdc nB X 0), 24, true, 1⟩)] (fam2 29 X (ownB 29 (X.take 0))) ⟨(hds_clN nA_ge _ _ _), (hdc_cl nB_ge _ _ _ _), trivial⟩ (fam2_flat (ownB_flat _ _)) ?_
  refine al_ind (fun i : Nat => (fun (i : Nat) => mkF 1 [(0, .slice (some ⟨0, 0, none⟩) X.length 0), (1, .int .i64 tol), (7, .slice (some ⟨1, 0, none⟩) X.length 0), (25, .slice (some ⟨0, 0, none⟩) X.length 0), (26, .int .i64 ((X.length : Nat) : Int)), (27, .int .i64 ((i : Nat) : Int))] [(0, ⟨(hds nA X), 24, false, 1⟩), (1, ⟨(hdc nB X i), 24, true, 1⟩)] (fam2 29 X (ownB 29 (X.take i)))) i) (fun i : Nat => (fun (i : Nat) => (i ≤ X.length)) i) (fun i : Nat => (fun (i : Nat) => X.length - i) i) (fun i hi1 ih1 => ?_) 0 (show (0 ≤ X.length) from by omega)
  obtain ⟨i, hv1⟩ : ∃ z, z = i := ⟨i, rfl⟩; subst hv1
  have hi1' : (i ≤ X.length) := hi1
  have hi : i ≤ X.length := hi1'
  show AL _ _ _ (mkF 1 [(0, .slice (some ⟨0, 0, none⟩) X.length 0), (1, .int .i64 tol), (7, .slice (some ⟨1, 0, none⟩) X.length 0), (25, .slice (some ⟨0, 0, none⟩) X.length 0), (26, .int .i64 ((X.length : Nat) : Int)), (27, .int .i64 ((i : Nat) : Int))] [(0, ⟨(hds nA X), 24, false, 1⟩), (1, ⟨(hdc nB X i), 24, true, 1⟩)] (fam2 29 X (ownB 29 (X.take i)))) _
  refine al_round ?_
  refine aw_p 495 (
    .a 1 2 <| .nil _ _) ?_
  refine aw_sq 990 991 ?_
  refine aw_cd 1980 1981 (decide (((i : Nat) : Int) < ((X.length : Nat) : Int))) (fun h1 => ?_) (fun h1 => ?_)
  · have h1p : ((((i : Nat) : Int) < ((X.length : Nat) : Int))) := by first | (simpa using h1) | (have h1q := h1; simp at h1q; omega) | (have h1q := bx1 h1; simp at h1q; omega)
    have hil : i < X.length := (by omega); have zi := hsz i hil
    refine aw_sk ?_
    refine then_normal ?_
    refine aw_sq 1982 1983 ?_
    refine aw_bl 1 3965 ?_
    refine aw_p 7931 (
      .a 1 2 <| .p (does_indexSlice (t := 36) (x := .tmp 25) (y := .tmp 27) (k := 0) (off := 0) (n := X.length) (c := 0) (z := 1) (kd := .i64) (j := ((i : Nat) : Int)) (by kernel_rfl) (by kernel_rfl) (by kernel_rfl) (by kernel_rfl) (by kernel_rfl) (by omega) (by omega)) <|
      .p (does_load (t := 24) (x := .tmp 30) (k := 0) (off := (0 + (((i : Nat) : Int)).toNat * 1)) (b := ⟨(hds nA X), 24, false, 1⟩) (v := .slice (some ⟨(nA i), 0, none⟩) ((X.getD i []).length) 0) (by kernel_rfl) (by kernel_rfl) (by kernel_rfl) (by rw [show (0 + (((i : Nat) : Int)).toNat * 1) = i from (by omega)]; exact ldV_hds (by kernel_rfl) (by kernel_rfl) (by omega))) <|
      .a 2 2 <| .nil _ _) ?_
    refine aw_alias 8 (nA i) 9 ((X.getD i []).length) ⟨((X.getD i []).flatMap ptc), 29, false, 2⟩ [(0, .slice (some ⟨0, 0, none⟩) X.length 0), (1, .int .i64 tol), (7, .slice (some ⟨1, 0, none⟩) X.length 0), (8, .int .i64 ((i : Nat) : Int)), (25, .slice (some ⟨0, 0, none⟩) X.length 0), (26, .int .i64 ((X.length : Nat) : Int)), (27, .int .i64 ((i : Nat) : Int)), (28, .bool (decide (((i : Nat) : Int) < ((X.length : Nat) : Int))))] [(0, ⟨(hds nA X), 24, false, 1⟩), (1, ⟨(hdc nB X i), 24, true, 1⟩)] (fam2 29 X (ownB 29 (X.take i))) (Eq.trans (b := (fam2 29 X (ownB 29 (X.take i))) (nA i)) (by kernel_rfl) (fam2_A _ _ _ _)) (flats_pair _) ⟨(hds_clN nA_ge _ _ _), (hdc_cl nB_ge _ _ _ _), trivial⟩ (fam2_flat (ownB_flat _ _)) ?_
    refine aw_p1 (
      .a 3 9 <|
      .p (does_callB (x := .func 66) (ars := #[.tmp 34]) (ats := #[24]) (g := 66) (vs := [.slice (some ⟨8, 0, none⟩) ((X.getD i []).length) 0]) (m := 1) (r := 1) (firsts := #[]) (caps := #[]) (args0 := [.slice (some ⟨0, 0, none⟩) ((X.getD i []).length) 0]) (pre0 := [(0, ⟨((X.getD i []).flatMap ptc), 29, false, 2⟩)]) (post0 := [(1, ⟨((X.getD i []).flatMap ptc), 29, true, 2⟩)]) (pre := [(8, ⟨((X.getD i []).flatMap ptc), 29, false, 2⟩)]) (post := [(9, ⟨((X.getD i []).flatMap ptc), 29, true, 2⟩)]) (v0 := .slice (some ⟨1, 0, none⟩) ((X.getD i []).length) 0) (v := .slice (some ⟨9, 0, none⟩) ((X.getD i []).length) 0) [8, 9] (by kernel_rfl) (by kernel_rfl) (by kernel_rfl) (by kernel_rfl) (clone_ro (X.getD i []) (by omega) (by omega)) (.cons (.slice _ _ _ _ _ (by decide)) .nil) ⟨rfl, ⟨rfl, rfl, rfl, (.flats (flats_pair _))⟩, trivial⟩ (by kernel_rfl) (by kernel_rfl) (by kernel_rfl) ⟨rfl, ⟨rfl, rfl, rfl, (.flats (flats_pair _))⟩, trivial⟩ (.slice _ _ _ _ _ (by decide))) <|
      .p (does_indexSlice (t := 36) (x := .tmp 32) (y := .tmp 33) (k := 1) (off := 0) (n := X.length) (c := 0) (z := 1) (kd := .i64) (j := ((i : Nat) : Int)) (by kernel_rfl) (by kernel_rfl) (by kernel_rfl) (by kernel_rfl) (by kernel_rfl) (by omega) (by omega)) <|
      .p (does_store (t := 24) (x := .tmp 36) (y := .tmp 35) (k := 1) (off := (0 + (((i : Nat) : Int)).toNat * 1)) (b := ⟨(hdc nB X i), 24, true, 1⟩) (v := .slice (some ⟨9, 0, none⟩) ((X.getD i []).length) 0) (cells := ((hdc nB X i).set i (.slice (some ⟨9, 0, none⟩) ((X.getD i []).length) 0))) (by kernel_rfl) (by kernel_rfl) (by kernel_rfl) (by kernel_rfl) (by kernel_rfl) (by kernel_rfl) (by kernel_rfl) (Nat.ble_eq_true_of_le (by show _ + 1 ≤ (hdc nB X i).length; rw [hdc_len]; omega)) (by rw [show (0 + (((i : Nat) : Int)).toNat * 1) = i from (by omega)]; rfl)) <| .nil _ _) ?_
    refine block_normal ?_
    refine then_normal ?_
    refine aw_p1 (
      .p (does_i (((i : Nat) : Int) + 1) (wrap_i64 (by omega) (by omega)) .i64) <| .a 1 10 <| .nil _ _) ?_
    refine then_normal ?_
    refine al_weak (keep_clone (TH := 24) (K := 1) (q := 9) (i := i) (X := X) (TP := 29) (T := [(0, .slice (some ⟨0, 0, none⟩) X.length 0), (1, .int .i64 tol), (7, .slice (some ⟨1, 0, none⟩) X.length 0), (25, .slice (some ⟨0, 0, none⟩) X.length 0), (26, .int .i64 ((X.length : Nat) : Int)), (27, .int .i64 (((i : Nat) : Int) + 1))]) rfl ⟨by decide, by decide⟩ ⟨by decide, by decide, by decide⟩ hil (by kernel_rfl) (by kernel_rfl) (by kernel_rfl) (by kernel_rfl) (by kernel_rfl) (by intro j; kernel_rfl)) ?_
    refine al_wF [(0, .slice (some ⟨0, 0, none⟩) X.length 0), (1, .int .i64 tol), (7, .slice (some ⟨1, 0, none⟩) X.length 0), (25, .slice (some ⟨0, 0, none⟩) X.length 0), (26, .int .i64 ((X.length : Nat) : Int)), (27, .int .i64 (((i + 1) : Nat) : Int))] [(0, ⟨(hds nA X), 24, false, 1⟩), (1, ⟨(hdc nB X (i + 1)), 24, true, 1⟩)] (fam2 29 X (ownB 29 (X.take (i + 1)))) ⟨(hds_clN nA_ge _ _ _), (hdc_cl nB_ge _ _ _ _), trivial⟩ (fam2_flat (ownB_flat _ _)) ?_
    exact ih1 (i + 1) (show ((i + 1) ≤ X.length) from by omega) (show X.length - (i + 1) < X.length - i from by omega)
  · have h1p : ¬ ((((i : Nat) : Int) < ((X.length : Nat) : Int))) := by first | (simpa using h1) | (have h1q := h1; simp at h1q; omega) | (have h1q := bx2 h1; simp at h1q; omega)
    have hie : i = X.length := by omega
    refine aw_ex 0 ?_
    refine then_exit ?_
    refine then_exit ?_
    refine block_exit ?_
    refine then_normal ?_
    subst hie
    refine aw_wF [(0, .slice (some ⟨0, 0, none⟩) X.length 0), (1, .int .i64 tol), (7, .slice (some ⟨1, 0, none⟩) X.length 0)] [(0, ⟨(hds nA X), 24, false, 1⟩), (1, ⟨(hds nB X), 24, true, 1⟩)] (fam2 29 X (ownB 29 X)) ⟨(hds_clN nA_ge _ _ _), (hds_clN nB_ge _ _ _), trivial⟩ (fam2_flat (ownB_flat _ _)) ?_ (by kernel_rfl) (by rw [← hdc_full nB X]; kernel_rfl) (fun j => by rw [show ownB 29 X = ownB 29 (X.take X.length) from by rw [List.take_length]]; kernel_rfl)
    refine aw_sq 62 63 ?_
    refine aw_p 125 (
      .a 3 2 <| .nil _ _) ?_
    refine aw_bl 2 251 ?_
    refine aw_lp 503 ?_
    refine al_wF [(1, .int .i64 tol), (7, .slice (some ⟨1, 0, none⟩) X.length 0), (38, .slice (some ⟨0, 0, none⟩) X.length 0), (39, .int .i64 ((X.length : Nat) : Int)), (40, .int .i64 ((0 : Nat) : Int))] [(0, ⟨(hds nA X), 24, false, 1⟩), (1, ⟨(hds nB X), 24, true, 1⟩)] (fam2 29 X (ownB 29 X)) ⟨(hds_clN nA_ge _ _ _), (hds_clN nB_ge _ _ _), trivial⟩ (fam2_flat (ownB_flat _ _)) ?_
    refine al_ind (fun i : Nat × List Row => (fun (u : Nat) (N : List Row) => mkF 1 [(1, .int .i64 tol), (7, .slice (some ⟨1, 0, none⟩) X.length 0), (38, .slice (some ⟨0, 0, none⟩) X.length 0), (39, .int .i64 ((X.length : Nat) : Int)), (40, .int .i64 ((u : Nat) : Int))] [(0, ⟨(hds nA X), 24, false, 1⟩), (1, ⟨(hds nB N), 24, true, 1⟩)] (fam2 29 X (ownB 29 N))) i.1 i.2) (fun i : Nat × List Row => (fun (u : Nat) (N : List Row) => (u ≤ X.length) ∧ (Sp.KR tol X u N)) i.1 i.2) (fun i : Nat × List Row => (fun (u : Nat) (N : List Row) => X.length - u) i.1 i.2) (fun i hi2 ih2 => ?_) (0, X) (show (0 ≤ X.length) ∧ (Sp.KR tol X 0 X) from ⟨by omega, by (exact Sp.KR.of hc (by omega) rfl)⟩)
    obtain ⟨u, N⟩ := i
    have hi2' : (u ≤ X.length) ∧ (Sp.KR tol X u N) := hi2
    obtain ⟨hi, hR⟩ := hi2'
    show AL _ _ _ (mkF 1 [(1, .int .i64 tol), (7, .slice (some ⟨1, 0, none⟩) X.length 0), (38, .slice (some ⟨0, 0, none⟩) X.length 0), (39, .int .i64 ((X.length : Nat) : Int)), (40, .int .i64 ((u : Nat) : Int))] [(0, ⟨(hds nA X), 24, false, 1⟩), (1, ⟨(hds nB N), 24, true, 1⟩)] (fam2 29 X (ownB 29 N))) _
    have hNl : N.length = X.length := hR.len
    refine al_round ?_
    refine aw_p 1007 (
      .a 1 2 <| .nil _ _) ?_
    refine aw_sq 2014 2015 ?_
    refine aw_cd 4028 4029 (decide (((u : Nat) : Int) < ((X.length : Nat) : Int))) (fun h2 => ?_) (fun h2 => ?_)
    · have h2p : ((((u : Nat) : Int) < ((X.length : Nat) : Int))) := by first | (simpa using h2) | (have h2q := h2; simp at h2q; omega) | (have h2q := bx1 h2; simp at h2q; omega)
      have hux : u < X.length := (by omega); have hul : u < N.length := (by omega); have zu := hsz u hux; have hfx : Sp.Few 1048576 (X.getD u []) := Sp.okTo_few ho u
      refine aw_sk ?_
      refine then_normal ?_
      refine aw_sq 4030 4031 ?_
      refine aw_bl 3 8061 ?_
      refine aw_weak (keep_in (TH := 24) (K := 1) (q := 7) (i := u) (N := N) (X := X) (TP := 29) (T := [(1, .int .i64 tol), (7, .slice (some ⟨1, 0, none⟩) X.length 0), (38, .slice (some ⟨0, 0, none⟩) X.length 0), (39, .int .i64 ((X.length : Nat) : Int)), (40, .int .i64 ((u : Nat) : Int))]) rfl ⟨by decide, by decide⟩ ⟨by decide, by decide, by decide⟩ hul (by kernel_rfl) (by kernel_rfl) (by kernel_rfl) (by kernel_rfl) (by intro j; kernel_rfl)) ?_
      refine aw_p 16123 (
        .a 1 9 <| .p (does_indexSlice (t := 36) (x := .tmp 38) (y := .tmp 40) (k := 0) (off := 0) (n := X.length) (c := 0) (z := 1) (kd := .i64) (j := ((u : Nat) : Int)) (by kernel_rfl) (by kernel_rfl) (by kernel_rfl) (by kernel_rfl) (by kernel_rfl) (by omega) (by omega)) <|
        .p (does_load (t := 24) (x := .tmp 43) (k := 0) (off := (0 + (((u : Nat) : Int)).toNat * 1)) (b := ⟨(hds nA X), 24, false, 1⟩) (v := .slice (some ⟨(nA u), 0, none⟩) ((X.getD u []).length) 0) (by kernel_rfl) (by kernel_rfl) (by kernel_rfl) (by rw [show (0 + (((u : Nat) : Int)).toNat * 1) = u from (by omega)]; exact ldV_hds (by kernel_rfl) (by kernel_rfl) (by omega))) <|
        .a 2 9 <| .nil _ _) ?_
      refine aw_alias 8 (nA u) 11 ((X.getD u []).length) ⟨((X.getD u []).flatMap ptc), 29, false, 2⟩ [(1, .int .i64 tol), (7, .slice (some ⟨1, 0, none⟩) X.length 0), (10, .int .i64 ((u : Nat) : Int)), (38, .slice (some ⟨0, 0, none⟩) X.length 0), (39, .int .i64 ((X.length : Nat) : Int)), (40, .int .i64 ((u : Nat) : Int))] [(0, ⟨(hds nA X), 24, false, 1⟩), (1, ⟨(hds (n7 7 u) N), 24, true, 1⟩), (7, ⟨((N.getD u []).flatMap ptc), 29, true, 2⟩)] (fam2 29 X (ownX 29 N u)) (Eq.trans (b := (fam2 29 X (ownX 29 N u)) (nA u)) (by kernel_rfl) (fam2_A _ _ _ _)) (flats_pair _) ⟨(hds_clN nA_ge _ _ _), (hds_cl7 (by kernel_rfl) _), (pts_cl _ _ _), trivial⟩ (fam2_flat (ownX_flat _ _ _)) ?_
      refine aw_p 32247 (
        .a 1 9 <| .nil _ _) ?_
      refine aw_p 64495 (
        .a 1 9 <| .nil _ _) ?_
      have hg : N.getD u [] = (X.getD u []) := hR.same u (Nat.le_refl u); have hy0 : ([Sp.g2 (X.getD u []) 0] ++ (X.getD u []).drop (1)) = (X.getD u []) := Sp.keep_y0 (by omega); have hn0 : (N.set u ([Sp.g2 (X.getD u []) 0] ++ (X.getD u []).drop (1))) = N := Sp.keep_n0 hul (hg.trans hy0.symm)
      refine aw_wF [(1, .int .i64 tol), (7, .slice (some ⟨1, 0, none⟩) X.length 0), (10, .int .i64 ((u : Nat) : Int)), (11, .slice (some ⟨8, 0, none⟩) ((X.getD u []).length) 0), (12, .int .i64 0), (13, .int .i64 1), (38, .slice (some ⟨0, 0, none⟩) X.length 0), (39, .int .i64 ((X.length : Nat) : Int)), (40, .int .i64 ((u : Nat) : Int))] [(0, ⟨(hds nA X), 24, false, 1⟩), (1, ⟨(hds (n7 7 u) (N.set u ([Sp.g2 (X.getD u []) 0] ++ (X.getD u []).drop (1)))), 24, true, 1⟩), (7, ⟨(([Sp.g2 (X.getD u []) 0] ++ (X.getD u []).drop (1)).flatMap ptc), 29, true, 2⟩), (8, ⟨((X.getD u []).flatMap ptc), 29, false, 2⟩)] (fam2 29 X (ownX 29 N u)) ⟨(hds_clN nA_ge _ _ _), (hds_cl7 (by kernel_rfl) _), (pts_cl _ _ _), (pts_cl _ _ _), trivial⟩ (fam2_flat (ownX_flat _ _ _)) ?_ (by kernel_rfl) (by rw [hn0, hy0, ← hg]; kernel_rfl)
      refine aw_bl 4 128991 ?_
      refine aw_lp 257983 ?_
      refine al_wF [(1, .int .i64 tol), (7, .slice (some ⟨1, 0, none⟩) X.length 0), (10, .int .i64 ((u : Nat) : Int)), (11, .slice (some ⟨8, 0, none⟩) ((X.getD u []).length) 0), (12, .int .i64 ((0 : Nat) : Int)), (13, .int .i64 ((([Sp.g2 (X.getD u []) 0]).length : Nat) : Int)), (38, .slice (some ⟨0, 0, none⟩) X.length 0), (39, .int .i64 ((X.length : Nat) : Int)), (40, .int .i64 ((u : Nat) : Int))] [(0, ⟨(hds nA X), 24, false, 1⟩), (1, ⟨(hds (n7 7 u) (N.set u (([Sp.g2 (X.getD u []) 0]) ++ (X.getD u []).drop 1))), 24, true, 1⟩), (7, ⟨((([Sp.g2 (X.getD u []) 0]) ++ (X.getD u []).drop 1).flatMap ptc), 29, true, 2⟩), (8, ⟨((X.getD u []).flatMap ptc), 29, false, 2⟩)] (fam2 29 X (ownX 29 N u)) ⟨(hds_clN nA_ge _ _ _), (hds_cl7 (by kernel_rfl) _), (pts_cl _ _ _), (pts_cl _ _ _), trivial⟩ (fam2_flat (ownX_flat _ _ _)) ?_
      refine al_ind (fun i : List (Int × Int) × Nat × Nat => (fun (kl : List (Int × Int)) (a : Nat) (f : Nat) => mkF 1 [(1, .int .i64 tol), (7, .slice (some ⟨1, 0, none⟩) X.length 0), (10, .int .i64 ((u : Nat) : Int)), (11, .slice (some ⟨8, 0, none⟩) ((X.getD u []).length) 0), (12, .int .i64 ((a : Nat) : Int)), (13, .int .i64 ((kl.length : Nat) : Int)), (38, .slice (some ⟨0, 0, none⟩) X.length 0), (39, .int .i64 ((X.length : Nat) : Int)), (40, .int .i64 ((u : Nat) : Int))] [(0, ⟨(hds nA X), 24, false, 1⟩), (1, ⟨(hds (n7 7 u) (N.set u (kl ++ (X.getD u []).drop f))), 24, true, 1⟩), (7, ⟨((kl ++ (X.getD u []).drop f).flatMap ptc), 29, true, 2⟩), (8, ⟨((X.getD u []).flatMap ptc), 29, false, 2⟩)] (fam2 29 X (ownX 29 N u))) i.1 i.2.1 i.2.2) (fun i : List (Int × Int) × Nat × Nat => (fun (kl : List (Int × Int)) (a : Nat) (f : Nat) => (Sp.KI tol N u (X.getD u []) kl a f) ∧ (∀ p, p ∈ kl → p ∈ (X.getD u [])) ∧ (Sp.kp tol N u (X.getD u []) ((X.getD u []).length + 1 - f) kl a f = Sp.kp tol N u (X.getD u []) (X.getD u []).length [Sp.g2 (X.getD u []) 0] 0 1)) i.1 i.2.1 i.2.2) (fun i : List (Int × Int) × Nat × Nat => (fun (kl : List (Int × Int)) (a : Nat) (f : Nat) => (X.getD u []).length - f) i.1 i.2.1 i.2.2) (fun i hi3 ih3 => ?_) (([Sp.g2 (X.getD u []) 0]), 0, 1) (show (Sp.KI tol N u (X.getD u []) ([Sp.g2 (X.getD u []) 0]) 0 1) ∧ (∀ p, p ∈ ([Sp.g2 (X.getD u []) 0]) → p ∈ (X.getD u [])) ∧ (Sp.kp tol N u (X.getD u []) ((X.getD u []).length + 1 - 1) ([Sp.g2 (X.getD u []) 0]) 0 1 = Sp.kp tol N u (X.getD u []) (X.getD u []).length [Sp.g2 (X.getD u []) 0] 0 1) from ⟨by (exact Sp.KI.begin hR hul), by (intro p hp; simp only [List.mem_cons, List.not_mem_nil, or_false] at hp; subst hp; exact Sp.g2_mem (by omega)), by (exact Sp.kp_init)⟩)
      obtain ⟨kl, a, f⟩ := i
      have hi3' : (Sp.KI tol N u (X.getD u []) kl a f) ∧ (∀ p, p ∈ kl → p ∈ (X.getD u [])) ∧ (Sp.kp tol N u (X.getD u []) ((X.getD u []).length + 1 - f) kl a f = Sp.kp tol N u (X.getD u []) (X.getD u []).length [Sp.g2 (X.getD u []) 0] 0 1) := hi3
      obtain ⟨hK, hM, hE⟩ := hi3'
      show AL _ _ _ (mkF 1 [(1, .int .i64 tol), (7, .slice (some ⟨1, 0, none⟩) X.length 0), (10, .int .i64 ((u : Nat) : Int)), (11, .slice (some ⟨8, 0, none⟩) ((X.getD u []).length) 0), (12, .int .i64 ((a : Nat) : Int)), (13, .int .i64 ((kl.length : Nat) : Int)), (38, .slice (some ⟨0, 0, none⟩) X.length 0), (39, .int .i64 ((X.length : Nat) : Int)), (40, .int .i64 ((u : Nat) : Int))] [(0, ⟨(hds nA X), 24, false, 1⟩), (1, ⟨(hds (n7 7 u) (N.set u (kl ++ (X.getD u []).drop f))), 24, true, 1⟩), (7, ⟨((kl ++ (X.getD u []).drop f).flatMap ptc), 29, true, 2⟩), (8, ⟨((X.getD u []).flatMap ptc), 29, false, 2⟩)] (fam2 29 X (ownX 29 N u))) _
      have hyl : (kl ++ (X.getD u []).drop f).length = kl.length + ((X.getD u []).length - f) := (by simp)
      have kfl := hK.fl; have kuf := hK.uf; have kkf := hK.kf; have kk1 := hK.k1
      refine al_round ?_
      refine aw_sq 515966 515967 ?_
      refine aw_p 1031933 (
        .a 3 9 <| .p (does_indexSlice (t := 36) (x := .tmp 46) (y := .tmp 47) (k := 1) (off := 0) (n := X.length) (c := 0) (z := 1) (kd := .i64) (j := ((u : Nat) : Int)) (by kernel_rfl) (by kernel_rfl) (by kernel_rfl) (by kernel_rfl) (by kernel_rfl) (by omega) (by omega)) <|
        .p (does_load (t := 24) (x := .tmp 48) (k := 1) (off := (0 + (((u : Nat) : Int)).toNat * 1)) (b := ⟨(hds (n7 7 u) (N.set u (kl ++ (X.getD u []).drop f))), 24, true, 1⟩) (v := .slice (some ⟨7, 0, none⟩) ((kl ++ (X.getD u []).drop f).length) 0) (by kernel_rfl) (by kernel_rfl) (by kernel_rfl) (by rw [show (0 + (((u : Nat) : Int)).toNat * 1) = u from (by omega)]; exact ldV_hd7 (by kernel_rfl) (by kernel_rfl) (by omega))) <|
        .a 1 9 <| .p (does_i ((((kl ++ (X.getD u []).drop f).length : Nat) : Int) - 1) (wrap_i64 (by omega) (by omega)) .i64) <| .a 1 9 <| .nil _ _) ?_
      refine aw_cd 2063866 2063867 (decide (((kl.length : Nat) : Int) < ((((kl ++ (X.getD u []).drop f).length : Nat) : Int) - 1))) (fun h3 => ?_) (fun h3 => ?_)
      · have h3p : ((((kl.length : Nat) : Int) < ((((kl ++ (X.getD u []).drop f).length : Nat) : Int) - 1))) := by first | (simpa using h3) | (have h3q := h3; simp at h3q; omega) | (have h3q := bx1 h3; simp at h3q; omega)
        have hf : f + 1 < (X.getD u []).length := by omega
        refine aw_sk ?_
        refine then_normal ?_
        refine aw_bl 5 1031935 ?_
        refine aw_p 2063871 (
          .a 2 9 <| .p (does_indexSlice (t := 36) (x := .tmp 53) (y := .tmp 54) (k := 1) (off := 0) (n := X.length) (c := 0) (z := 1) (kd := .i64) (j := ((u : Nat) : Int)) (by kernel_rfl) (by kernel_rfl) (by kernel_rfl) (by kernel_rfl) (by kernel_rfl) (by omega) (by omega)) <|
          .p (does_load (t := 24) (x := .tmp 55) (k := 1) (off := (0 + (((u : Nat) : Int)).toNat * 1)) (b := ⟨(hds (n7 7 u) (N.set u (kl ++ (X.getD u []).drop f))), 24, true, 1⟩) (v := .slice (some ⟨7, 0, none⟩) ((kl ++ (X.getD u []).drop f).length) 0) (by kernel_rfl) (by kernel_rfl) (by kernel_rfl) (by rw [show (0 + (((u : Nat) : Int)).toNat * 1) = u from (by omega)]; exact ldV_hd7 (by kernel_rfl) (by kernel_rfl) (by omega))) <|
          .a 1 9 <|
          .p (does_indexSlice (t := 24) (x := .tmp 56) (y := .tmp 57) (k := 7) (off := 0) (n := ((kl ++ (X.getD u []).drop f).length)) (c := 0) (z := 2) (kd := .i64) (j := ((kl.length : Nat) : Int)) (by kernel_rfl) (by kernel_rfl) (by kernel_rfl) (by kernel_rfl) (by kernel_rfl) (by omega) (by omega)) <|
          .p (does_load (t := 29) (x := .tmp 58) (k := 7) (off := (0 + (((kl.length : Nat) : Int)).toNat * 2)) (b := ⟨((kl ++ (X.getD u []).drop f).flatMap ptc), 29, true, 2⟩) (v := .agg #[.int .i64 (((kl ++ (X.getD u []).drop f).getD kl.length (0, 0)).1), .int .i64 (((kl ++ (X.getD u []).drop f).getD kl.length (0, 0)).2)]) (by kernel_rfl) (by kernel_rfl) (by kernel_rfl) (ldV_pair (j := kl.length) (by kernel_rfl) (by kernel_rfl) (by omega) (by omega))) <|
          .a 2 9 <| .nil _ _) ?_
        refine aw_d 4127743 (
          .a 1 10 <| .p (does_i ((a + 1 : Nat) : Int) ((show (IntKind.wrap .i64 (((a : Nat) : Int) + 1)) = ((a + 1 : Nat) : Int) from ((wrap_i64 (by omega) (by omega)).trans (by omega)))) .i64) <| .a 2 10 <|
          .p (does_i ((a + 1 : Nat) : Int) ((show (IntKind.wrap .i64 (((a : Nat) : Int) + 1)) = ((a + 1 : Nat) : Int) from ((wrap_i64 (by omega) (by omega)).trans (by omega)))) .i64) <|
          .p (does_val (v' := .slice (some ⟨8, (0 + (a + 1) * 2), none⟩) (((X.getD u []).length) - (a + 1)) 0) (does_slice (t := 24) (x := .tmp 62) (lo := some (.tmp 64)) (hi := none) (k := 8) (off := 0) (n := ((X.getD u []).length)) (c := 0) (z := 2) (l := ((a + 1 : Nat) : Int)) (h := ((((X.getD u []).length) : Nat) : Int)) (m := (((X.getD u []).length) - (a + 1))) (b := ⟨((X.getD u []).flatMap ptc), 29, false, 2⟩) (by kernel_rfl) (by kernel_rfl) (by kernel_rfl) (by kernel_rfl) (by kernel_rfl) (by kernel_rfl) (by kernel_rfl) (by kernel_rfl) (by omega) (by omega) (by omega) (by omega)) (by kernel_rfl)) <|
          .a 1 10 <|
          .p (does_int (n' := ((f - (a + 1) : Nat) : Int)) (does_ro [8] #[.tmp 65, .tmp 66] #[24, 29] [.slice (some ⟨8, (0 + (a + 1) * 2), none⟩) (((X.getD u []).length) - (a + 1)) 0, .agg #[.int .i64 (((kl ++ (X.getD u []).drop f).getD kl.length (0, 0)).1), .int .i64 (((kl ++ (X.getD u []).drop f).getD kl.length (0, 0)).2)]] [(29, false)] (index_off (X.getD u []) (a + 1) (((X.getD u []).length) - (a + 1)) (by omega) (by omega) (((kl ++ (X.getD u []).drop f).getD kl.length (0, 0)).1) (((kl ++ (X.getD u []).drop f).getD kl.length (0, 0)).2)) (.cons (.slice _ _ _ _ _ (by decide)) (.cons (.flatB (by kernel_rfl)) .nil)) ⟨⟨rfl, flats_pair _⟩, trivial⟩) (Sp.keep_ix1 hR.lines hul (hR.same u (Nat.le_refl u)) kuf hf)) <|
          .p (does_i ((f : Nat) : Int) ((show (IntKind.wrap .i64 (((a + 1 : Nat) : Int) + ((f - (a + 1) : Nat) : Int))) = ((f : Nat) : Int) from ((wrap_i64 (by omega) (by omega)).trans (by omega)))) .i64) <| .a 1 10 <| .nil _ _) ?_
        refine aw_d 8255487 (
          .a 1 10 <| .p (does_i ((f + 1 : Nat) : Int) ((show (IntKind.wrap .i64 (((f : Nat) : Int) + 1)) = ((f + 1 : Nat) : Int) from ((wrap_i64 (by omega) (by omega)).trans (by omega)))) .i64) <| .a 2 10 <|
          .p (does_i ((f + 1 : Nat) : Int) ((show (IntKind.wrap .i64 (((f : Nat) : Int) + 1)) = ((f + 1 : Nat) : Int) from ((wrap_i64 (by omega) (by omega)).trans (by omega)))) .i64) <|
          .p (does_val (v' := .slice (some ⟨8, (0 + (f + 1) * 2), none⟩) (((X.getD u []).length) - (f + 1)) 0) (does_slice (t := 24) (x := .tmp 71) (lo := some (.tmp 73)) (hi := none) (k := 8) (off := 0) (n := ((X.getD u []).length)) (c := 0) (z := 2) (l := ((f + 1 : Nat) : Int)) (h := ((((X.getD u []).length) : Nat) : Int)) (m := (((X.getD u []).length) - (f + 1))) (b := ⟨((X.getD u []).flatMap ptc), 29, false, 2⟩) (by kernel_rfl) (by kernel_rfl) (by kernel_rfl) (by kernel_rfl) (by kernel_rfl) (by kernel_rfl) (by kernel_rfl) (by kernel_rfl) (by omega) (by omega) (by omega) (by omega)) (by kernel_rfl)) <|
          .a 2 10 <| .p (does_indexSlice (t := 36) (x := .tmp 75) (y := .tmp 76) (k := 1) (off := 0) (n := X.length) (c := 0) (z := 1) (kd := .i64) (j := ((u : Nat) : Int)) (by kernel_rfl) (by kernel_rfl) (by kernel_rfl) (by kernel_rfl) (by kernel_rfl) (by omega) (by omega)) <|
          .p (does_load (t := 24) (x := .tmp 77) (k := 1) (off := (0 + (((u : Nat) : Int)).toNat * 1)) (b := ⟨(hds (n7 7 u) (N.set u (kl ++ (X.getD u []).drop f))), 24, true, 1⟩) (v := .slice (some ⟨7, 0, none⟩) ((kl ++ (X.getD u []).drop f).length) 0) (by kernel_rfl) (by kernel_rfl) (by kernel_rfl) (by rw [show (0 + (((u : Nat) : Int)).toNat * 1) = u from (by omega)]; exact ldV_hd7 (by kernel_rfl) (by kernel_rfl) (by omega))) <|
          .a 1 10 <| .p (does_i ((kl.length + 1 : Nat) : Int) ((show (IntKind.wrap .i64 (((kl.length : Nat) : Int) + 1)) = ((kl.length + 1 : Nat) : Int) from ((wrap_i64 (by omega) (by omega)).trans (by omega)))) .i64) <|
          .p (does_indexSlice (t := 24) (x := .tmp 78) (y := .tmp 80) (k := 7) (off := 0) (n := ((kl ++ (X.getD u []).drop f).length)) (c := 0) (z := 2) (kd := .i64) (j := ((kl.length + 1 : Nat) : Int)) (by kernel_rfl) (by kernel_rfl) (by kernel_rfl) (by kernel_rfl) (by kernel_rfl) (by omega) (by omega)) <|
          .p (does_load (t := 29) (x := .tmp 81) (k := 7) (off := (0 + (((kl.length + 1 : Nat) : Int)).toNat * 2)) (b := ⟨((kl ++ (X.getD u []).drop f).flatMap ptc), 29, true, 2⟩) (v := .agg #[.int .i64 (((kl ++ (X.getD u []).drop f).getD (kl.length + 1) (0, 0)).1), .int .i64 (((kl ++ (X.getD u []).drop f).getD (kl.length + 1) (0, 0)).2)]) (by kernel_rfl) (by kernel_rfl) (by kernel_rfl) (ldV_pair (j := (kl.length + 1)) (by kernel_rfl) (by kernel_rfl) (by omega) (by omega))) <|
          .p (does_int (n' := ((0 : Nat) : Int)) (does_ro [8] #[.tmp 74, .tmp 82] #[24, 29] [.slice (some ⟨8, (0 + (f + 1) * 2), none⟩) (((X.getD u []).length) - (f + 1)) 0, .agg #[.int .i64 (((kl ++ (X.getD u []).drop f).getD (kl.length + 1) (0, 0)).1), .int .i64 (((kl ++ (X.getD u []).drop f).getD (kl.length + 1) (0, 0)).2)]] [(29, false)] (index_off (X.getD u []) (f + 1) (((X.getD u []).length) - (f + 1)) (by omega) (by omega) (((kl ++ (X.getD u []).drop f).getD (kl.length + 1) (0, 0)).1) (((kl ++ (X.getD u []).drop f).getD (kl.length + 1) (0, 0)).2)) (.cons (.slice _ _ _ _ _ (by decide)) (.cons (.flatB (by kernel_rfl)) .nil)) ⟨⟨rfl, flats_pair _⟩, trivial⟩) (Sp.keep_ix2 hf)) <|
          .p (does_i ((f + 1 : Nat) : Int) ((show (IntKind.wrap .i64 (((f + 1 : Nat) : Int) + ((0 : Nat) : Int))) = ((f + 1 : Nat) : Int) from ((wrap_i64 (by omega) (by omega)).trans (by omega)))) .i64) <| .a 1 10 <| .nil _ _) ?_
        refine aw_sq 16510974 16510975 ?_
        rcases Bool.eq_false_or_eq_true (Sp.nearB tol (X.getD u []) a (f + 1)) with h4 | h4
        · refine aw_d 33021949 (
            .a 2 10 <| .p (does_i ((a + 1 : Nat) : Int) ((show (IntKind.wrap .i64 (((a : Nat) : Int) + 1)) = ((a + 1 : Nat) : Int) from ((wrap_i64 (by omega) (by omega)).trans (by omega)))) .i64) <| .a 1 10 <|
            .p (does_val (v' := .slice (some ⟨8, (0 + (a + 1) * 2), none⟩) ((f + 1) - (a + 1)) 0) (does_slice (t := 24) (x := .tmp 85) (lo := some (.tmp 87)) (hi := some (.tmp 88)) (k := 8) (off := 0) (n := ((X.getD u []).length)) (c := 0) (z := 2) (l := ((a + 1 : Nat) : Int)) (h := ((f + 1 : Nat) : Int)) (m := ((f + 1) - (a + 1))) (b := ⟨((X.getD u []).flatMap ptc), 29, false, 2⟩) (by kernel_rfl) (by kernel_rfl) (by kernel_rfl) (by kernel_rfl) (by kernel_rfl) (by kernel_rfl) (by kernel_rfl) (by kernel_rfl) (by omega) (by omega) (by omega) (by omega)) (by kernel_rfl)) <|
            .a 2 10 <| .p (does_indexSlice (t := 24) (x := .tmp 90) (y := .tmp 91) (k := 8) (off := 0) (n := ((X.getD u []).length)) (c := 0) (z := 2) (kd := .i64) (j := ((a : Nat) : Int)) (by kernel_rfl) (by kernel_rfl) (by kernel_rfl) (by kernel_rfl) (by kernel_rfl) (by omega) (by omega)) <|
            .p (does_load (t := 29) (x := .tmp 92) (k := 8) (off := (0 + (((a : Nat) : Int)).toNat * 2)) (b := ⟨((X.getD u []).flatMap ptc), 29, false, 2⟩) (v := .agg #[.int .i64 (((X.getD u []).getD a (0, 0)).1), .int .i64 (((X.getD u []).getD a (0, 0)).2)]) (by kernel_rfl) (by kernel_rfl) (by kernel_rfl) (ldV_pair (j := a) (by kernel_rfl) (by kernel_rfl) (by omega) (by omega))) <|
            .a 2 10 <| .p (does_indexSlice (t := 24) (x := .tmp 94) (y := .tmp 95) (k := 8) (off := 0) (n := ((X.getD u []).length)) (c := 0) (z := 2) (kd := .i64) (j := ((f + 1 : Nat) : Int)) (by kernel_rfl) (by kernel_rfl) (by kernel_rfl) (by kernel_rfl) (by kernel_rfl) (by omega) (by omega)) <|
            .p (does_load (t := 29) (x := .tmp 96) (k := 8) (off := (0 + (((f + 1 : Nat) : Int)).toNat * 2)) (b := ⟨((X.getD u []).flatMap ptc), 29, false, 2⟩) (v := .agg #[.int .i64 (((X.getD u []).getD (f + 1) (0, 0)).1), .int .i64 (((X.getD u []).getD (f + 1) (0, 0)).2)]) (by kernel_rfl) (by kernel_rfl) (by kernel_rfl) (ldV_pair (j := (f + 1)) (by kernel_rfl) (by kernel_rfl) (by omega) (by omega))) <|
            .a 1 10 <|
            .p (does_bool (b' := true) (does_ro [8] #[.tmp 89, .tmp 93, .tmp 97, .tmp 98] #[24, 29, 29, 3] [.slice (some ⟨8, (0 + (a + 1) * 2), none⟩) ((f + 1) - (a + 1)) 0, .agg #[.int .i64 (((X.getD u []).getD a (0, 0)).1), .int .i64 (((X.getD u []).getD a (0, 0)).2)], .agg #[.int .i64 (((X.getD u []).getD (f + 1) (0, 0)).1), .int .i64 (((X.getD u []).getD (f + 1) (0, 0)).2)], .int .i64 tol] [(29, false)] (near_ok (X.getD u []) a (f + 1) tol ⟨by omega, by omega⟩ (by omega) hfx) (.cons (.slice _ _ _ _ _ (by decide)) (.cons (.flatB (by kernel_rfl)) (.cons (.flatB (by kernel_rfl)) (.cons (.flatB (by kernel_rfl)) .nil)))) ⟨⟨rfl, flats_pair _⟩, trivial⟩) (h4)) <|
            .a 4 10 <|
            .p (does_bool (b' := (Sp.mayB (N.set u (kl ++ (X.getD u []).drop f)) (kl ++ (X.getD u []).drop f) kl.length)) (does_fam 1 (n7 7 u) #[.tmp 101, .tmp 102, .tmp 103] #[36, 3, 3] [.slice (some ⟨1, 0, none⟩) X.length 0, .int .i64 ((u : Nat) : Int), .int .i64 ((kl.length : Nat) : Int)] ((by have h := may_ok (N.set u (kl ++ (X.getD u []).drop f)) u kl.length (Sp.KI.few (a := a) hR hul (hR.same u (Nat.le_refl u)) hM) (Sp.KI.sizes hR hul (hR.same u (Nat.le_refl u)) hK) (by rw [List.length_set]; omega) (by rw [List.length_set]; exact hul) (by rw [set_getD hul, if_pos rfl]; omega); rw [show (N.set u (kl ++ (X.getD u []).drop f)).length = X.length from by rw [List.length_set]; exact hNl] at h; exact h)) ⟨24, true, by kernel_rfl⟩ (may_rows (X := X) (TP := 29) (by kernel_rfl) (by intro j; kernel_rfl) hul) (show RenL (famS 1 (n7 7 u)) (· < 1 + X.length) [.slice (some ⟨0, 0, none⟩) X.length 0, .int .i64 ((u : Nat) : Int), .int .i64 ((kl.length : Nat) : Int)] [.slice (some ⟨1, 0, none⟩) X.length 0, .int .i64 ((u : Nat) : Int), .int .i64 ((kl.length : Nat) : Int)] from (.cons (.slice 0 _ _ _ _ (by show 0 < 1 + _; omega)) (.cons (.flatB (by kernel_rfl)) (.cons (.flatB (by kernel_rfl)) .nil)))) (hn := by rw [List.length_set]; exact hNl.symm)) ((show (Sp.mayB (N.set u (kl ++ (X.getD u []).drop f)) ((N.set u (kl ++ (X.getD u []).drop f)).getD u []) kl.length) = (Sp.mayB (N.set u (kl ++ (X.getD u []).drop f)) (kl ++ (X.getD u []).drop f) kl.length) from (by rw [set_getD hul, if_pos rfl])))) <|
            .a 1 10 <| .nil _ _) ?_
          refine aw_cd 66043898 66043899 (Sp.mayB (N.set u (kl ++ (X.getD u []).drop f)) (kl ++ (X.getD u []).drop f) kl.length) (fun h5 => ?_) (fun h5 => ?_)
          · refine aw_p 132087797 (
              .a 4 10 <| .p (does_indexSlice (t := 36) (x := .tmp 108) (y := .tmp 109) (k := 1) (off := 0) (n := X.length) (c := 0) (z := 1) (kd := .i64) (j := ((u : Nat) : Int)) (by kernel_rfl) (by kernel_rfl) (by kernel_rfl) (by kernel_rfl) (by kernel_rfl) (by omega) (by omega)) <|
              .p (does_load (t := 24) (x := .tmp 110) (k := 1) (off := (0 + (((u : Nat) : Int)).toNat * 1)) (b := ⟨(hds (n7 7 u) (N.set u (kl ++ (X.getD u []).drop f))), 24, true, 1⟩) (v := .slice (some ⟨7, 0, none⟩) ((kl ++ (X.getD u []).drop f).length) 0) (by kernel_rfl) (by kernel_rfl) (by kernel_rfl) (by rw [show (0 + (((u : Nat) : Int)).toNat * 1) = u from (by omega)]; exact ldV_hd7 (by kernel_rfl) (by kernel_rfl) (by omega))) <|
              .a 2 10 <| .p (does_i ((kl.length + 1 : Nat) : Int) ((show (IntKind.wrap .i64 (((kl.length : Nat) : Int) + 1)) = ((kl.length + 1 : Nat) : Int) from ((wrap_i64 (by omega) (by omega)).trans (by omega)))) .i64) <|
              .p (does_callB (x := .func 69) (ars := #[.tmp 111, .tmp 112, .tmp 114]) (ats := #[24, 3, 3]) (g := 69) (vs := [.slice (some ⟨7, 0, none⟩) ((kl ++ (X.getD u []).drop f).length) 0, .int .i64 ((kl.length : Nat) : Int), .int .i64 ((kl.length + 1 : Nat) : Int)]) (m := 1) (r := 0) (firsts := #[]) (caps := #[]) (args0 := [.slice (some ⟨0, 0, none⟩) ((kl ++ (X.getD u []).drop f).length) 0, .int .i64 ((kl.length : Nat) : Int), .int .i64 ((kl.length + 1 : Nat) : Int)]) (pre0 := [(0, ⟨((kl ++ (X.getD u []).drop f).flatMap ptc), 29, true, 2⟩)]) (post0 := [(0, ⟨((kl ++ (X.getD u []).drop (f + 1)).flatMap ptc), 29, true, 2⟩)]) (pre := [(7, ⟨((kl ++ (X.getD u []).drop f).flatMap ptc), 29, true, 2⟩)]) (post := [(7, ⟨((kl ++ (X.getD u []).drop (f + 1)).flatMap ptc), 29, true, 2⟩)]) (v0 := .slice (some ⟨0, 0, none⟩) ((kl ++ (X.getD u []).drop (f + 1)).length) 0) (v := .slice (some ⟨7, 0, none⟩) ((kl ++ (X.getD u []).drop (f + 1)).length) 0) [7] (by kernel_rfl) (by kernel_rfl) (by kernel_rfl) (by kernel_rfl) (del_app_ok kl (X.getD u []) f (by omega)) (.cons (.slice _ _ _ _ _ (by decide)) (.cons (.flatB (by kernel_rfl)) (.cons (.flatB (by kernel_rfl)) .nil))) ⟨rfl, ⟨rfl, rfl, rfl, (.flats (flats_pair _))⟩, trivial⟩ (by kernel_rfl) (by kernel_rfl) (by kernel_rfl) ⟨rfl, ⟨rfl, rfl, rfl, (.flats (flats_pair _))⟩, trivial⟩ (.slice _ _ _ _ _ (by decide))) <|
              .p (does_indexSlice (t := 36) (x := .tmp 106) (y := .tmp 107) (k := 1) (off := 0) (n := X.length) (c := 0) (z := 1) (kd := .i64) (j := ((u : Nat) : Int)) (by kernel_rfl) (by kernel_rfl) (by kernel_rfl) (by kernel_rfl) (by kernel_rfl) (by omega) (by omega)) <|
              .p (does_store (t := 24) (x := .tmp 116) (y := .tmp 115) (k := 1) (off := (0 + (((u : Nat) : Int)).toNat * 1)) (b := ⟨(hds (n7 7 u) (N.set u (kl ++ (X.getD u []).drop f))), 24, true, 1⟩) (v := .slice (some ⟨7, 0, none⟩) ((kl ++ (X.getD u []).drop (f + 1)).length) 0) (cells := (hds (n7 7 u) (N.set u (kl ++ (X.getD u []).drop (f + 1))))) (by kernel_rfl) (by kernel_rfl) (by kernel_rfl) (by kernel_rfl) (by kernel_rfl) (by kernel_rfl) (by kernel_rfl) (Nat.ble_eq_true_of_le (by show _ + 1 ≤ (hds (n7 7 u) (N.set u (kl ++ (X.getD u []).drop f))).length; rw [hds_len, List.length_set]; omega)) (by rw [show (0 + (((u : Nat) : Int)).toNat * 1) = u from (by omega)]; exact set_hd7 (by omega))) <| .nil _ _) ?_
            refine aw_ex 5 ?_
            refine then_exit ?_
            refine block_exit ?_
            refine then_normal ?_
            refine al_wF [(1, .int .i64 tol), (7, .slice (some ⟨1, 0, none⟩) X.length 0), (10, .int .i64 ((u : Nat) : Int)), (11, .slice (some ⟨8, 0, none⟩) ((X.getD u []).length) 0), (12, .int .i64 ((a : Nat) : Int)), (13, .int .i64 ((kl.length : Nat) : Int)), (38, .slice (some ⟨0, 0, none⟩) X.length 0), (39, .int .i64 ((X.length : Nat) : Int)), (40, .int .i64 ((u : Nat) : Int))] [(0, ⟨(hds nA X), 24, false, 1⟩), (1, ⟨(hds (n7 7 u) (N.set u (kl ++ (X.getD u []).drop (f + 1)))), 24, true, 1⟩), (7, ⟨((kl ++ (X.getD u []).drop (f + 1)).flatMap ptc), 29, true, 2⟩), (8, ⟨((X.getD u []).flatMap ptc), 29, false, 2⟩)] (fam2 29 X (ownX 29 N u)) ⟨(hds_clN nA_ge _ _ _), (hds_cl7 (by kernel_rfl) _), (pts_cl _ _ _), (pts_cl _ _ _), trivial⟩ (fam2_flat (ownX_flat _ _ _)) ?_
            exact ih3 (kl, a, (f + 1)) (show (Sp.KI tol N u (X.getD u []) kl a (f + 1)) ∧ (∀ p, p ∈ kl → p ∈ (X.getD u [])) ∧ (Sp.kp tol N u (X.getD u []) ((X.getD u []).length + 1 - (f + 1)) kl a (f + 1) = Sp.kp tol N u (X.getD u []) (X.getD u []).length [Sp.g2 (X.getD u []) 0] 0 1) from ⟨by (first | exact hK.skip hul hf (by assumption) (by assumption) | exact hK.keep hf), by (first | exact hM | exact Sp.mem_keep hM hK.fl), by (first | exact (Sp.kp_skip hf (by assumption) (by assumption)).trans hE | exact (Sp.kp_keep hf (Sp.and_f1 (by assumption))).trans hE | exact (Sp.kp_keep hf (Sp.and_f2 (by assumption))).trans hE)⟩) (show (X.getD u []).length - (f + 1) < (X.getD u []).length - f from by omega)
          · refine aw_sk ?_
            refine then_normal ?_
            refine aw_p 33021951 (
              .a 2 10 <| .nil _ _) ?_
            refine aw_p1 (
              .a 1 10 <| .p (does_i ((kl.length + 1 : Nat) : Int) ((show (IntKind.wrap .i64 (((kl.length : Nat) : Int) + 1)) = ((kl.length + 1 : Nat) : Int) from ((wrap_i64 (by omega) (by omega)).trans (by omega)))) .i64) <| .a 1 10 <| .nil _ _) ?_
            refine block_normal ?_
            refine then_normal ?_
            have hll : (kl ++ [Sp.g2 (X.getD u []) f]).length = kl.length + 1 := (by simp)
            have hys : ((kl ++ [Sp.g2 (X.getD u []) f]) ++ (X.getD u []).drop (f + 1)) = (kl ++ (X.getD u []).drop f) := Sp.app_same (by omega)
            refine al_wF [(1, .int .i64 tol), (7, .slice (some ⟨1, 0, none⟩) X.length 0), (10, .int .i64 ((u : Nat) : Int)), (11, .slice (some ⟨8, 0, none⟩) ((X.getD u []).length) 0), (12, .int .i64 ((f : Nat) : Int)), (13, .int .i64 (((kl ++ [Sp.g2 (X.getD u []) f]).length : Nat) : Int)), (38, .slice (some ⟨0, 0, none⟩) X.length 0), (39, .int .i64 ((X.length : Nat) : Int)), (40, .int .i64 ((u : Nat) : Int))] [(0, ⟨(hds nA X), 24, false, 1⟩), (1, ⟨(hds (n7 7 u) (N.set u ((kl ++ [Sp.g2 (X.getD u []) f]) ++ (X.getD u []).drop (f + 1)))), 24, true, 1⟩), (7, ⟨(((kl ++ [Sp.g2 (X.getD u []) f]) ++ (X.getD u []).drop (f + 1)).flatMap ptc), 29, true, 2⟩), (8, ⟨((X.getD u []).flatMap ptc), 29, false, 2⟩)] (fam2 29 X (ownX 29 N u)) ⟨(hds_clN nA_ge _ _ _), (hds_cl7 (by kernel_rfl) _), (pts_cl _ _ _), (pts_cl _ _ _), trivial⟩ (fam2_flat (ownX_flat _ _ _)) ?_ (by rw [hll]; kernel_rfl) (by rw [hys]; kernel_rfl)
            refine al_wF [(1, .int .i64 tol), (7, .slice (some ⟨1, 0, none⟩) X.length 0), (10, .int .i64 ((u : Nat) : Int)), (11, .slice (some ⟨8, 0, none⟩) ((X.getD u []).length) 0), (12, .int .i64 ((f : Nat) : Int)), (13, .int .i64 (((kl ++ [Sp.g2 (X.getD u []) f]).length : Nat) : Int)), (38, .slice (some ⟨0, 0, none⟩) X.length 0), (39, .int .i64 ((X.length : Nat) : Int)), (40, .int .i64 ((u : Nat) : Int))] [(0, ⟨(hds nA X), 24, false, 1⟩), (1, ⟨(hds (n7 7 u) (N.set u ((kl ++ [Sp.g2 (X.getD u []) f]) ++ (X.getD u []).drop (f + 1)))), 24, true, 1⟩), (7, ⟨(((kl ++ [Sp.g2 (X.getD u []) f]) ++ (X.getD u []).drop (f + 1)).flatMap ptc), 29, true, 2⟩), (8, ⟨((X.getD u []).flatMap ptc), 29, false, 2⟩)] (fam2 29 X (ownX 29 N u)) ⟨(hds_clN nA_ge _ _ _), (hds_cl7 (by kernel_rfl) _), (pts_cl _ _ _), (pts_cl _ _ _), trivial⟩ (fam2_flat (ownX_flat _ _ _)) ?_
            exact ih3 ((kl ++ [Sp.g2 (X.getD u []) f]), f, (f + 1)) (show (Sp.KI tol N u (X.getD u []) (kl ++ [Sp.g2 (X.getD u []) f]) f (f + 1)) ∧ (∀ p, p ∈ (kl ++ [Sp.g2 (X.getD u []) f]) → p ∈ (X.getD u [])) ∧ (Sp.kp tol N u (X.getD u []) ((X.getD u []).length + 1 - (f + 1)) (kl ++ [Sp.g2 (X.getD u []) f]) f (f + 1) = Sp.kp tol N u (X.getD u []) (X.getD u []).length [Sp.g2 (X.getD u []) 0] 0 1) from ⟨by (first | exact hK.skip hul hf (by assumption) (by assumption) | exact hK.keep hf), by (first | exact hM | exact Sp.mem_keep hM hK.fl), by (first | exact (Sp.kp_skip hf (by assumption) (by assumption)).trans hE | exact (Sp.kp_keep hf (Sp.and_f1 (by assumption))).trans hE | exact (Sp.kp_keep hf (Sp.and_f2 (by assumption))).trans hE)⟩) (show (X.getD u []).length - (f + 1) < (X.getD u []).length - f from by omega)
        · refine aw_d 33021949 (
            .a 2 10 <| .p (does_i ((a + 1 : Nat) : Int) ((show (IntKind.wrap .i64 (((a : Nat) : Int) + 1)) = ((a + 1 : Nat) : Int) from ((wrap_i64 (by omega) (by omega)).trans (by omega)))) .i64) <| .a 1 10 <|
            .p (does_val (v' := .slice (some ⟨8, (0 + (a + 1) * 2), none⟩) ((f + 1) - (a + 1)) 0) (does_slice (t := 24) (x := .tmp 85) (lo := some (.tmp 87)) (hi := some (.tmp 88)) (k := 8) (off := 0) (n := ((X.getD u []).length)) (c := 0) (z := 2) (l := ((a + 1 : Nat) : Int)) (h := ((f + 1 : Nat) : Int)) (m := ((f + 1) - (a + 1))) (b := ⟨((X.getD u []).flatMap ptc), 29, false, 2⟩) (by kernel_rfl) (by kernel_rfl) (by kernel_rfl) (by kernel_rfl) (by kernel_rfl) (by kernel_rfl) (by kernel_rfl) (by kernel_rfl) (by omega) (by omega) (by omega) (by omega)) (by kernel_rfl)) <|
            .a 2 10 <| .p (does_indexSlice (t := 24) (x := .tmp 90) (y := .tmp 91) (k := 8) (off := 0) (n := ((X.getD u []).length)) (c := 0) (z := 2) (kd := .i64) (j := ((a : Nat) : Int)) (by kernel_rfl) (by kernel_rfl) (by kernel_rfl) (by kernel_rfl) (by kernel_rfl) (by omega) (by omega)) <|
            .p (does_load (t := 29) (x := .tmp 92) (k := 8) (off := (0 + (((a : Nat) : Int)).toNat * 2)) (b := ⟨((X.getD u []).flatMap ptc), 29, false, 2⟩) (v := .agg #[.int .i64 (((X.getD u []).getD a (0, 0)).1), .int .i64 (((X.getD u []).getD a (0, 0)).2)]) (by kernel_rfl) (by kernel_rfl) (by kernel_rfl) (ldV_pair (j := a) (by kernel_rfl) (by kernel_rfl) (by omega) (by omega))) <|
            .a 2 10 <| .p (does_indexSlice (t := 24) (x := .tmp 94) (y := .tmp 95) (k := 8) (off := 0) (n := ((X.getD u []).length)) (c := 0) (z := 2) (kd := .i64) (j := ((f + 1 : Nat) : Int)) (by kernel_rfl) (by kernel_rfl) (by kernel_rfl) (by kernel_rfl) (by kernel_rfl) (by omega) (by omega)) <|
            .p (does_load (t := 29) (x := .tmp 96) (k := 8) (off := (0 + (((f + 1 : Nat) : Int)).toNat * 2)) (b := ⟨((X.getD u []).flatMap ptc), 29, false, 2⟩) (v := .agg #[.int .i64 (((X.getD u []).getD (f + 1) (0, 0)).1), .int .i64 (((X.getD u []).getD (f + 1) (0, 0)).2)]) (by kernel_rfl) (by kernel_rfl) (by kernel_rfl) (ldV_pair (j := (f + 1)) (by kernel_rfl) (by kernel_rfl) (by omega) (by omega))) <|
            .a 1 10 <|
            .p (does_bool (b' := false) (does_ro [8] #[.tmp 89, .tmp 93, .tmp 97, .tmp 98] #[24, 29, 29, 3] [.slice (some ⟨8, (0 + (a + 1) * 2), none⟩) ((f + 1) - (a + 1)) 0, .agg #[.int .i64 (((X.getD u []).getD a (0, 0)).1), .int .i64 (((X.getD u []).getD a (0, 0)).2)], .agg #[.int .i64 (((X.getD u []).getD (f + 1) (0, 0)).1), .int .i64 (((X.getD u []).getD (f + 1) (0, 0)).2)], .int .i64 tol] [(29, false)] (near_ok (X.getD u []) a (f + 1) tol ⟨by omega, by omega⟩ (by omega) hfx) (.cons (.slice _ _ _ _ _ (by decide)) (.cons (.flatB (by kernel_rfl)) (.cons (.flatB (by kernel_rfl)) (.cons (.flatB (by kernel_rfl)) .nil)))) ⟨⟨rfl, flats_pair _⟩, trivial⟩) (h4)) <|
            .a 6 10 <| .nil _ _) ?_
          refine aw_fl 66043899 ?_
          refine aw_sk ?_
          refine then_normal ?_
          refine aw_p 33021951 (
            .a 2 10 <| .nil _ _) ?_
          refine aw_p1 (
            .a 1 10 <| .p (does_i ((kl.length + 1 : Nat) : Int) ((show (IntKind.wrap .i64 (((kl.length : Nat) : Int) + 1)) = ((kl.length + 1 : Nat) : Int) from ((wrap_i64 (by omega) (by omega)).trans (by omega)))) .i64) <| .a 1 10 <| .nil _ _) ?_
          refine block_normal ?_
          refine then_normal ?_
          have hll : (kl ++ [Sp.g2 (X.getD u []) f]).length = kl.length + 1 := (by simp)
          have hys : ((kl ++ [Sp.g2 (X.getD u []) f]) ++ (X.getD u []).drop (f + 1)) = (kl ++ (X.getD u []).drop f) := Sp.app_same (by omega)
          refine al_wF [(1, .int .i64 tol), (7, .slice (some ⟨1, 0, none⟩) X.length 0), (10, .int .i64 ((u : Nat) : Int)), (11, .slice (some ⟨8, 0, none⟩) ((X.getD u []).length) 0), (12, .int .i64 ((f : Nat) : Int)), (13, .int .i64 (((kl ++ [Sp.g2 (X.getD u []) f]).length : Nat) : Int)), (38, .slice (some ⟨0, 0, none⟩) X.length 0), (39, .int .i64 ((X.length : Nat) : Int)), (40, .int .i64 ((u : Nat) : Int))] [(0, ⟨(hds nA X), 24, false, 1⟩), (1, ⟨(hds (n7 7 u) (N.set u ((kl ++ [Sp.g2 (X.getD u []) f]) ++ (X.getD u []).drop (f + 1)))), 24, true, 1⟩), (7, ⟨(((kl ++ [Sp.g2 (X.getD u []) f]) ++ (X.getD u []).drop (f + 1)).flatMap ptc), 29, true, 2⟩), (8, ⟨((X.getD u []).flatMap ptc), 29, false, 2⟩)] (fam2 29 X (ownX 29 N u)) ⟨(hds_clN nA_ge _ _ _), (hds_cl7 (by kernel_rfl) _), (pts_cl _ _ _), (pts_cl _ _ _), trivial⟩ (fam2_flat (ownX_flat _ _ _)) ?_ (by rw [hll]; kernel_rfl) (by rw [hys]; kernel_rfl)
          refine al_wF [(1, .int .i64 tol), (7, .slice (some ⟨1, 0, none⟩) X.length 0), (10, .int .i64 ((u : Nat) : Int)), (11, .slice (some ⟨8, 0, none⟩) ((X.getD u []).length) 0), (12, .int .i64 ((f : Nat) : Int)), (13, .int .i64 (((kl ++ [Sp.g2 (X.getD u []) f]).length : Nat) : Int)), (38, .slice (some ⟨0, 0, none⟩) X.length 0), (39, .int .i64 ((X.length : Nat) : Int)), (40, .int .i64 ((u : Nat) : Int))] [(0, ⟨(hds nA X), 24, false, 1⟩), (1, ⟨(hds (n7 7 u) (N.set u ((kl ++ [Sp.g2 (X.getD u []) f]) ++ (X.getD u []).drop (f + 1)))), 24, true, 1⟩), (7, ⟨(((kl ++ [Sp.g2 (X.getD u []) f]) ++ (X.getD u []).drop (f + 1)).flatMap ptc), 29, true, 2⟩), (8, ⟨((X.getD u []).flatMap ptc), 29, false, 2⟩)] (fam2 29 X (ownX 29 N u)) ⟨(hds_clN nA_ge _ _ _), (hds_cl7 (by kernel_rfl) _), (pts_cl _ _ _), (pts_cl _ _ _), trivial⟩ (fam2_flat (ownX_flat _ _ _)) ?_
          exact ih3 ((kl ++ [Sp.g2 (X.getD u []) f]), f, (f + 1)) (show (Sp.KI tol N u (X.getD u []) (kl ++ [Sp.g2 (X.getD u []) f]) f (f + 1)) ∧ (∀ p, p ∈ (kl ++ [Sp.g2 (X.getD u []) f]) → p ∈ (X.getD u [])) ∧ (Sp.kp tol N u (X.getD u []) ((X.getD u []).length + 1 - (f + 1)) (kl ++ [Sp.g2 (X.getD u []) f]) f (f + 1) = Sp.kp tol N u (X.getD u []) (X.getD u []).length [Sp.g2 (X.getD u []) 0] 0 1) from ⟨by (first | exact hK.skip hul hf (by assumption) (by assumption) | exact hK.keep hf), by (first | exact hM | exact Sp.mem_keep hM hK.fl), by (first | exact (Sp.kp_skip hf (by assumption) (by assumption)).trans hE | exact (Sp.kp_keep hf (Sp.and_f1 (by assumption))).trans hE | exact (Sp.kp_keep hf (Sp.and_f2 (by assumption))).trans hE)⟩) (show (X.getD u []).length - (f + 1) < (X.getD u []).length - f from by omega)
      · have h3p : ¬ ((((kl.length : Nat) : Int) < ((((kl ++ (X.getD u []).drop f).length : Nat) : Int) - 1))) := by first | (simpa using h3) | (have h3q := h3; simp at h3q; omega) | (have h3q := bx2 h3; simp at h3q; omega)
        have hfe : ¬ f + 1 < (X.getD u []).length := by omega
        refine aw_ex 4 ?_
        refine then_exit ?_
        refine then_exit ?_
        refine block_exit ?_
        refine block_normal ?_
        refine then_normal ?_
        refine aw_p1 (
          .p (does_i (((u : Nat) : Int) + 1) (wrap_i64 (by omega) (by omega)) .i64) <| .a 1 9 <| .nil _ _) ?_
        refine then_normal ?_
        refine al_weak (keep_out (TH := 24) (K := 1) (q := 7) (i := u) (N := N) (y := (kl ++ (X.getD u []).drop f)) (X := X) (TP := 29) (T := [(1, .int .i64 tol), (7, .slice (some ⟨1, 0, none⟩) X.length 0), (38, .slice (some ⟨0, 0, none⟩) X.length 0), (39, .int .i64 ((X.length : Nat) : Int)), (40, .int .i64 (((u : Nat) : Int) + 1))]) rfl ⟨by decide, by decide⟩ ⟨by decide, by decide, by decide⟩ hul (by kernel_rfl) (by kernel_rfl) (by kernel_rfl) (by kernel_rfl) (by kernel_rfl) (by intro j; kernel_rfl)) ?_
        refine al_wF [(1, .int .i64 tol), (7, .slice (some ⟨1, 0, none⟩) X.length 0), (38, .slice (some ⟨0, 0, none⟩) X.length 0), (39, .int .i64 ((X.length : Nat) : Int)), (40, .int .i64 (((u + 1) : Nat) : Int))] [(0, ⟨(hds nA X), 24, false, 1⟩), (1, ⟨(hds nB (N.set u (kl ++ (X.getD u []).drop f))), 24, true, 1⟩)] (fam2 29 X (ownB 29 (N.set u (kl ++ (X.getD u []).drop f)))) ⟨(hds_clN nA_ge _ _ _), (hds_clN nB_ge _ _ _), trivial⟩ (fam2_flat (ownB_flat _ _)) ?_
        exact ih2 ((u + 1), (N.set u (kl ++ (X.getD u []).drop f))) (show ((u + 1) ≤ X.length) ∧ (Sp.KR tol X (u + 1) (N.set u (kl ++ (X.getD u []).drop f))) from ⟨by omega, by (exact Sp.KR.next hc hR hux ((Sp.kp_end hfe hK.fl).trans hE))⟩) (show X.length - (u + 1) < X.length - u from by omega)
    · have h2p : ¬ ((((u : Nat) : Int) < ((X.length : Nat) : Int))) := by first | (simpa using h2) | (have h2q := h2; simp at h2q; omega) | (have h2q := bx2 h2; simp at h2q; omega)
      have hue : u = X.length := by omega
      refine aw_ex 2 ?_
      refine then_exit ?_
      refine then_exit ?_
      refine block_exit ?_
      refine then_normal ?_
      refine aw_p 127 (
        .a 3 2 <| .nil _ _) ?_
      refine aw_rt ?_
      have hY : N = Sp.keepN tol X X.length := (by rw [hR.eq, hue])
      have hNl : N.length = X.length := hR.len
      exact enF_ret [.slice (some ⟨1, 0, none⟩) X.length 0, .int .i64 0] ⟨by rw [← hY, hNl], (by rw [← hY]; kernel_rfl), fun j hj => by rw [← hY] at hj ⊢; exact Eq.trans (b := (fam2 29 X (ownB 29 N)) (nB j)) (by kernel_rfl) (fam2_own hj)⟩
end Go.Proofs.Ytadifmimefmcnaa.Am
