import Derived.Test.YtadifmimefmcnaaProg
import Derived.Test.YtadifmimefmcnaaM2
import Derived.Test.YtadifmimefmcnaaM4
import Derived.Test.YtadifmimefmcnaaM5
import Derived.Test.YtadifmimefmcnaaM3
import Derived.Test.YtadifmimefmcnaaM6
import Derived.Shelf.RegionOpenPlain
import Derived.WalkKit
import Derived.Deep.LoopGhost
import Derived.Deep.RegionLaw
import Derived.Lib.Walk
import Derived.Lib.SliceRun
import Derived.Test.YtadifmimefmcnaaM0
set_option maxHeartbeats 4000000
set_option linter.unusedVariables false
set_option linter.unusedSimpArgs false
namespace Go.Proofs.Ytadifmimefmcnaa.Am
open Go Go.Proofs
theorem bJ (m n : Int) (h0 : 0 ≤ m) (h1 : m ≤ 18446744073709551615) (h2 : 0 ≤ n) (h3 : n ≤ 18446744073709551615) :
    AC Try.prog 120 0 ([.int .u64 m, .int .u64 n]) [] (.tuple #[.int .u64 (m * n / 18446744073709551616), .int .u64 (m * n % 18446744073709551616)]) [] := by
 obtain ⟨p0, p1, p2, p3, pe⟩ := Sp.sV h0 h1 h2 h3
 refine qK Try.func120 (fun w0 W pin => ?_)
 refine aw_e 3 2 1<|aw_p 7 (
  .a 1 1 <| .p (qJ (m % 4294967296) (Sp.eU h0 h1) .u64) <| .e 1 1) ?_
 refine aw_p 15 (
  .a 1 1 <| .p (qJ (m / 4294967296) (Sp.ufd dD) .u64) <| .e 1 1) ?_
 refine aw_p 31 (
  .a 1 1 <| .p (qJ (n % 4294967296) (Sp.eU h2 h3) .u64) <| .e 1 1) ?_
 refine aw_p 63 (
  .a 1 1 <| .p (qJ (n / 4294967296) (Sp.ufd dD) .u64) <| .e 1 1) ?_
 refine aw_p 127 (
  .a 2 1 <| .p (qJ ((m % 4294967296) * (n % 4294967296)) (wrap_u64 oO oO) .u64) <| .e 1 1) ?_
 refine aw_p 255 (
  .a 2 1 <| .p (qJ ((m / 4294967296) * (n % 4294967296)) (wrap_u64 oO oO) .u64) <| .a 1 1 <| .p (qJ (((m % 4294967296) * (n % 4294967296)) / 4294967296) (Sp.ufd dD) .u64) <|
  .p (qJ (((m / 4294967296) * (n % 4294967296)) + (((m % 4294967296) * (n % 4294967296)) / 4294967296)) (wrap_u64 oO oO) .u64) <| .e 1 1) ?_
 refine aw_w [(0, .int .u64 m), (1, .int .u64 n), (4, .int .u64 0), (5, .int .u64 0), (6, .int .u64 (m % 4294967296)), (7, .int .u64 (m / 4294967296)), (9, .int .u64 (n / 4294967296)), (11, .int .u64 (((m / 4294967296) * (n % 4294967296)) + (((m % 4294967296) * (n % 4294967296)) / 4294967296)))] [] ?_
 refine aw_p 511 (
  .a 1 1 <|
  .p (qJ ((((m / 4294967296) * (n % 4294967296)) + (((m % 4294967296) * (n % 4294967296)) / 4294967296)) % 4294967296) ((show (IntKind.wrap .u64 ((BitVec.ofInt 64 (((m / 4294967296) * (n % 4294967296)) + (((m % 4294967296) * (n % 4294967296)) / 4294967296)) &&& BitVec.ofInt 64 4294967295).toNat : Int)) = ((((m / 4294967296) * (n % 4294967296)) + (((m % 4294967296) * (n % 4294967296)) / 4294967296)) % 4294967296) from Sp.eU oO oO)) .u64) <|
  .e 1 1) ?_
 refine aw_p 1023 (
  .a 1 1 <| .p (qJ ((((m / 4294967296) * (n % 4294967296)) + (((m % 4294967296) * (n % 4294967296)) / 4294967296)) / 4294967296) (Sp.ufd dD) .u64) <| .e 1 1) ?_
 refine aw_p 2047 (
  .a 3 1 <| .p (qJ ((m % 4294967296) * (n / 4294967296)) (wrap_u64 oO oO) .u64) <|
  .p (qJ (((((m / 4294967296) * (n % 4294967296)) + (((m % 4294967296) * (n % 4294967296)) / 4294967296)) % 4294967296) + ((m % 4294967296) * (n / 4294967296))) (wrap_u64 oO oO) .u64) <| .e 1 1) ?_
 refine aw_p 4095 (
  .a 2 1 <| .p (qJ ((m / 4294967296) * (n / 4294967296)) (wrap_u64 oO oO) .u64) <| .a 1 1 <|
  .p (qJ (((m / 4294967296) * (n / 4294967296)) + ((((m / 4294967296) * (n % 4294967296)) + (((m % 4294967296) * (n % 4294967296)) / 4294967296)) / 4294967296)) (wrap_u64 oO oO) .u64) <| .a 1 1 <|
  .p (qJ ((((((m / 4294967296) * (n % 4294967296)) + (((m % 4294967296) * (n % 4294967296)) / 4294967296)) % 4294967296) + ((m % 4294967296) * (n / 4294967296))) / 4294967296) (Sp.ufd dD) .u64) <|
  .p (qJ ((((m / 4294967296) * (n / 4294967296)) + ((((m / 4294967296) * (n % 4294967296)) + (((m % 4294967296) * (n % 4294967296)) / 4294967296)) / 4294967296)) + ((((((m / 4294967296) * (n % 4294967296)) + (((m % 4294967296) * (n % 4294967296)) / 4294967296)) % 4294967296) + ((m % 4294967296) * (n / 4294967296))) / 4294967296)) (wrap_u64 oO oO) .u64) <|
  .e 1 1) ?_
 refine aw_p 8191 (
  .a 2 1 <| .p (qJ (m * n % 18446744073709551616) (Sp.ulow) .u64) <| .e 1 1) ?_
 refine aw_w [(4, .int .u64 ((((m / 4294967296) * (n / 4294967296)) + ((((m / 4294967296) * (n % 4294967296)) + (((m % 4294967296) * (n % 4294967296)) / 4294967296)) / 4294967296)) + ((((((m / 4294967296) * (n % 4294967296)) + (((m % 4294967296) * (n % 4294967296)) / 4294967296)) % 4294967296) + ((m % 4294967296) * (n / 4294967296))) / 4294967296))), (5, .int .u64 (m * n % 18446744073709551616))] [] ?_
 exact qF<|qB [.int .u64 ((((m / 4294967296) * (n / 4294967296)) + ((((m / 4294967296) * (n % 4294967296)) + (((m % 4294967296) * (n % 4294967296)) / 4294967296)) / 4294967296)) + ((((((m / 4294967296) * (n % 4294967296)) + (((m % 4294967296) * (n % 4294967296)) / 4294967296)) % 4294967296) + ((m % 4294967296) * (n / 4294967296))) / 4294967296)), .int .u64 (m * n % 18446744073709551616)] (show (.tuple #[.int .u64 ((((m / 4294967296) * (n / 4294967296)) + ((((m / 4294967296) * (n % 4294967296)) + (((m % 4294967296) * (n % 4294967296)) / 4294967296)) / 4294967296)) + ((((((m / 4294967296) * (n % 4294967296)) + (((m % 4294967296) * (n % 4294967296)) / 4294967296)) % 4294967296) + ((m % 4294967296) * (n / 4294967296))) / 4294967296)), .int .u64 (m * n % 18446744073709551616)] : Value) = (.tuple #[.int .u64 (m * n / 18446744073709551616), .int .u64 (m * n % 18446744073709551616)]) from (congrArg (fun z : List Value => Value.tuple z.toArray) (jB (congrArg (Value.int .u64) (show ((((m / 4294967296) * (n / 4294967296)) + ((((m / 4294967296) * (n % 4294967296)) + (((m % 4294967296) * (n % 4294967296)) / 4294967296)) / 4294967296)) + ((((((m / 4294967296) * (n % 4294967296)) + (((m % 4294967296) * (n % 4294967296)) / 4294967296)) % 4294967296) + ((m % 4294967296) * (n / 4294967296))) / 4294967296)) = (m * n / 18446744073709551616) from by (rw [pe]; omega))) (jB rfl rfl))))
theorem wof_ok (n : Int) (zln : -9223372036854775808 ≤ n) (zun : n ≤ 9223372036854775807) :
    AC Try.prog 93 0 ([.int .i64 n]) [] (.agg #[.int .i64 (Sp.wh n), .int .u64 (Sp.wl n)]) [] := by
 refine qK Try.func93 (fun w0 W pin => ?_)
 exact aw_e 3 1 1<|aw_e 7 6 2<|qF<|qB [.agg #[.int .i64 (Int.fdiv n 9223372036854775808), .int .u64 (IntKind.wrap .u64 n)]] (show (.agg #[.int .i64 (Int.fdiv n 9223372036854775808), .int .u64 (IntKind.wrap .u64 n)] : Value) = (.agg #[.int .i64 (Sp.wh n), .int .u64 (Sp.wl n)]) from (congrArg (fun z : List Value => Value.agg z.toArray) (jB (congrArg (Value.int .i64) (show (Int.fdiv n 9223372036854775808) = (Sp.wh n) from by (first | (simp only [Sp.wh, Sp.s64]; rw [Int.fdiv_eq_ediv_of_nonneg _ dD]; omega) | (simp only [Sp.wl, IntKind.wrap_u64])))) (jB (congrArg (Value.int .u64) (show (IntKind.wrap .u64 n) = (Sp.wl n) from by (first | (simp only [Sp.wh, Sp.s64]; rw [Int.fdiv_eq_ediv_of_nonneg _ dD]; omega) | (simp only [Sp.wl, IntKind.wrap_u64])))) rfl))))
theorem wmul_ok (a b : Int) (zla : -9223372036854775808 ≤ a) (zua : a ≤ 9223372036854775807) (zlb : -9223372036854775808 ≤ b) (zub : b ≤ 9223372036854775807) :
    AC Try.prog 92 0 ([.int .i64 a, .int .i64 b]) [] (.agg #[.int .i64 (Sp.wh (a * b)), .int .u64 (Sp.wl (a * b))]) [] := by
 obtain ⟨pe, pn⟩ := Sp.ab_parts zla zua zlb zub
 refine qK Try.func92 (fun w0 W pin => ?_)
 refine aw_e 3 1 1<|aw_p 7 (
  .a 1 2 <| .p (qJ (a % 18446744073709551616) (Sp.ulow) .u64) <| .a 1 2 <| .p (qJ (b % 18446744073709551616) (Sp.ulow) .u64) <| .p (qC (bJ (a % 18446744073709551616) (b % 18446744073709551616) oO oO oO oO)) <| .e 5 2) ?_
 refine qD 14 15<|aw_e 29 2 2<|qY 58 59 (decide (a < 0)) (fun h1 => ?_) (fun h1 => ?_)
 ·have h1p : ((a < 0)) := pB h1
  refine qW (
   .a 2 2 <| .p (qJ (b % 18446744073709551616) (Sp.ulow) .u64) <| .p (qJ ((((a % 18446744073709551616) * (b % 18446744073709551616) / 18446744073709551616) - (b % 18446744073709551616)) % 18446744073709551616) (Sp.ulow) .u64) <| .e 1 2) ?_
  refine qD 30 31<|aw_e 61 2 2<|qY 122 123 (decide (b < 0)) (fun h2 => ?_) (fun h2 => ?_)
  ·have h2p : ((b < 0)) := pB h2
   refine qW (
    .a 2 2 <| .p (qJ (a % 18446744073709551616) (Sp.ulow) .u64) <| .p (qJ ((((((a % 18446744073709551616) * (b % 18446744073709551616) / 18446744073709551616) - (b % 18446744073709551616)) % 18446744073709551616) - (a % 18446744073709551616)) % 18446744073709551616) (Sp.ulow) .u64) <| .e 1 2) ?_
   refine aw_p 63 (
    .a 1 2 <| .p (qJ (Sp.s64 ((((((a % 18446744073709551616) * (b % 18446744073709551616) / 18446744073709551616) - (b % 18446744073709551616)) % 18446744073709551616) - (a % 18446744073709551616)) % 18446744073709551616)) (Sp.bX _) .i64) <| .e 3 2) ?_
   refine aw_w [(4, .pointer (some ⟨1, 0, none⟩))] [(1, ⟨[.int .i64 (Sp.s64 ((((((a % 18446744073709551616) * (b % 18446744073709551616) / 18446744073709551616) - (b % 18446744073709551616)) % 18446744073709551616) - (a % 18446744073709551616)) % 18446744073709551616)), .int .u64 ((a % 18446744073709551616) * (b % 18446744073709551616) % 18446744073709551616)], 90, true, 2⟩)] ?_
   exact qF<|qB [.agg #[.int .i64 (Sp.s64 ((((((a % 18446744073709551616) * (b % 18446744073709551616) / 18446744073709551616) - (b % 18446744073709551616)) % 18446744073709551616) - (a % 18446744073709551616)) % 18446744073709551616)), .int .u64 ((a % 18446744073709551616) * (b % 18446744073709551616) % 18446744073709551616)]] (show (.agg #[.int .i64 (Sp.s64 ((((((a % 18446744073709551616) * (b % 18446744073709551616) / 18446744073709551616) - (b % 18446744073709551616)) % 18446744073709551616) - (a % 18446744073709551616)) % 18446744073709551616)), .int .u64 ((a % 18446744073709551616) * (b % 18446744073709551616) % 18446744073709551616)] : Value) = (.agg #[.int .i64 (Sp.wh (a * b)), .int .u64 (Sp.wl (a * b))]) from (congrArg (fun z : List Value => Value.agg z.toArray) (jB (congrArg (Value.int .i64) (show (Sp.s64 ((((((a % 18446744073709551616) * (b % 18446744073709551616) / 18446744073709551616) - (b % 18446744073709551616)) % 18446744073709551616) - (a % 18446744073709551616)) % 18446744073709551616)) = (Sp.wh (a * b)) from by (simp only [Sp.wh, Sp.wl, Sp.s64]; rw [pe]; (repeat' split) <;> omega))) (jB (congrArg (Value.int .u64) (show ((a % 18446744073709551616) * (b % 18446744073709551616) % 18446744073709551616) = (Sp.wl (a * b)) from by (simp only [Sp.wh, Sp.wl, Sp.s64]; rw [pe]; (repeat' split) <;> omega))) rfl))))
  have h2p : ¬ ((b < 0)) := pB h2
  refine qH<|aw_p 63 (
   .a 1 2 <| .p (qJ (Sp.s64 ((((a % 18446744073709551616) * (b % 18446744073709551616) / 18446744073709551616) - (b % 18446744073709551616)) % 18446744073709551616)) (Sp.bX _) .i64) <| .e 3 2) ?_
  refine aw_w [(4, .pointer (some ⟨1, 0, none⟩))] [(1, ⟨[.int .i64 (Sp.s64 ((((a % 18446744073709551616) * (b % 18446744073709551616) / 18446744073709551616) - (b % 18446744073709551616)) % 18446744073709551616)), .int .u64 ((a % 18446744073709551616) * (b % 18446744073709551616) % 18446744073709551616)], 90, true, 2⟩)] ?_
  exact qF<|qB [.agg #[.int .i64 (Sp.s64 ((((a % 18446744073709551616) * (b % 18446744073709551616) / 18446744073709551616) - (b % 18446744073709551616)) % 18446744073709551616)), .int .u64 ((a % 18446744073709551616) * (b % 18446744073709551616) % 18446744073709551616)]] (show (.agg #[.int .i64 (Sp.s64 ((((a % 18446744073709551616) * (b % 18446744073709551616) / 18446744073709551616) - (b % 18446744073709551616)) % 18446744073709551616)), .int .u64 ((a % 18446744073709551616) * (b % 18446744073709551616) % 18446744073709551616)] : Value) = (.agg #[.int .i64 (Sp.wh (a * b)), .int .u64 (Sp.wl (a * b))]) from (congrArg (fun z : List Value => Value.agg z.toArray) (jB (congrArg (Value.int .i64) (show (Sp.s64 ((((a % 18446744073709551616) * (b % 18446744073709551616) / 18446744073709551616) - (b % 18446744073709551616)) % 18446744073709551616)) = (Sp.wh (a * b)) from by (simp only [Sp.wh, Sp.wl, Sp.s64]; rw [pe]; (repeat' split) <;> omega))) (jB (congrArg (Value.int .u64) (show ((a % 18446744073709551616) * (b % 18446744073709551616) % 18446744073709551616) = (Sp.wl (a * b)) from by (simp only [Sp.wh, Sp.wl, Sp.s64]; rw [pe]; (repeat' split) <;> omega))) rfl))))
 have h1p : ¬ ((a < 0)) := pB h1
 refine qH<|qD 30 31<|aw_e 61 2 2<|qY 122 123 (decide (b < 0)) (fun h3 => ?_) (fun h3 => ?_)
 ·have h3p : ((b < 0)) := pB h3
  refine qW (
   .a 2 2 <| .p (qJ (a % 18446744073709551616) (Sp.ulow) .u64) <| .p (qJ ((((a % 18446744073709551616) * (b % 18446744073709551616) / 18446744073709551616) - (a % 18446744073709551616)) % 18446744073709551616) (Sp.ulow) .u64) <| .e 1 2) ?_
  refine aw_p 63 (
   .a 1 2 <| .p (qJ (Sp.s64 ((((a % 18446744073709551616) * (b % 18446744073709551616) / 18446744073709551616) - (a % 18446744073709551616)) % 18446744073709551616)) (Sp.bX _) .i64) <| .e 3 2) ?_
  refine aw_w [(4, .pointer (some ⟨1, 0, none⟩))] [(1, ⟨[.int .i64 (Sp.s64 ((((a % 18446744073709551616) * (b % 18446744073709551616) / 18446744073709551616) - (a % 18446744073709551616)) % 18446744073709551616)), .int .u64 ((a % 18446744073709551616) * (b % 18446744073709551616) % 18446744073709551616)], 90, true, 2⟩)] ?_
  exact qF<|qB [.agg #[.int .i64 (Sp.s64 ((((a % 18446744073709551616) * (b % 18446744073709551616) / 18446744073709551616) - (a % 18446744073709551616)) % 18446744073709551616)), .int .u64 ((a % 18446744073709551616) * (b % 18446744073709551616) % 18446744073709551616)]] (show (.agg #[.int .i64 (Sp.s64 ((((a % 18446744073709551616) * (b % 18446744073709551616) / 18446744073709551616) - (a % 18446744073709551616)) % 18446744073709551616)), .int .u64 ((a % 18446744073709551616) * (b % 18446744073709551616) % 18446744073709551616)] : Value) = (.agg #[.int .i64 (Sp.wh (a * b)), .int .u64 (Sp.wl (a * b))]) from (congrArg (fun z : List Value => Value.agg z.toArray) (jB (congrArg (Value.int .i64) (show (Sp.s64 ((((a % 18446744073709551616) * (b % 18446744073709551616) / 18446744073709551616) - (a % 18446744073709551616)) % 18446744073709551616)) = (Sp.wh (a * b)) from by (simp only [Sp.wh, Sp.wl, Sp.s64]; rw [pe]; (repeat' split) <;> omega))) (jB (congrArg (Value.int .u64) (show ((a % 18446744073709551616) * (b % 18446744073709551616) % 18446744073709551616) = (Sp.wl (a * b)) from by (simp only [Sp.wh, Sp.wl, Sp.s64]; rw [pe]; (repeat' split) <;> omega))) rfl))))
 have h3p : ¬ ((b < 0)) := pB h3
 refine qH<|aw_p 63 (
  .a 1 2 <| .p (qJ (Sp.s64 ((a % 18446744073709551616) * (b % 18446744073709551616) / 18446744073709551616)) (Sp.bX _) .i64) <| .e 3 2) ?_
 exact qF<|qB [.agg #[.int .i64 (Sp.s64 ((a % 18446744073709551616) * (b % 18446744073709551616) / 18446744073709551616)), .int .u64 ((a % 18446744073709551616) * (b % 18446744073709551616) % 18446744073709551616)]] (show (.agg #[.int .i64 (Sp.s64 ((a % 18446744073709551616) * (b % 18446744073709551616) / 18446744073709551616)), .int .u64 ((a % 18446744073709551616) * (b % 18446744073709551616) % 18446744073709551616)] : Value) = (.agg #[.int .i64 (Sp.wh (a * b)), .int .u64 (Sp.wl (a * b))]) from (congrArg (fun z : List Value => Value.agg z.toArray) (jB (congrArg (Value.int .i64) (show (Sp.s64 ((a % 18446744073709551616) * (b % 18446744073709551616) / 18446744073709551616)) = (Sp.wh (a * b)) from by (simp only [Sp.wh, Sp.wl, Sp.s64]; rw [pe]; (repeat' split) <;> omega))) (jB (congrArg (Value.int .u64) (show ((a % 18446744073709551616) * (b % 18446744073709551616) % 18446744073709551616) = (Sp.wl (a * b)) from by (simp only [Sp.wh, Sp.wl, Sp.s64]; rw [pe]; (repeat' split) <;> omega))) rfl))))
open Go Go.Proofs
theorem wadd_ok (a b : Int) :
    AC Try.prog 159 0 ([.agg #[.int .i64 (Sp.wh a), .int .u64 (Sp.wl a)], .agg #[.int .i64 (Sp.wh b), .int .u64 (Sp.wl b)]]) [] (.agg #[.int .i64 (Sp.wh (a + b)), .int .u64 (Sp.wl (a + b))]) [] := by
 have wla := Sp.tY a; have wha := Sp.tZ a; have wlb := Sp.tY b; have whb := Sp.tZ b
 refine qK Try.func159 (fun w0 W pin => ?_)
 refine aw_e 3 3 1<|aw_p 7 (
  .a 4 4 <| .p (fR (run_add64 Try.func162 kK kK kK kK (Sp.wl a) (Sp.wl b) 0 oO oO oO oO)) <| .e 5 4) ?_
 refine aw_p 15 (
  .a 2 4 <| .p (qJ ((Sp.wh a) % 18446744073709551616) (Sp.ulow) .u64) <| .a 2 4 <| .p (qJ ((Sp.wh b) % 18446744073709551616) (Sp.ulow) .u64) <| .a 1 4 <|
  .p (fR (run_add64 Try.func162 kK kK kK kK ((Sp.wh a) % 18446744073709551616) ((Sp.wh b) % 18446744073709551616) (((Sp.wl a) + (Sp.wl b) + 0) / 18446744073709551616) oO oO oO oO)) <| .e 5 4) ?_
 refine aw_w [(4, .pointer (some ⟨3, 0, none⟩)), (5, .int .u64 (((Sp.wl a) + (Sp.wl b) + 0) % 18446744073709551616)), (7, .int .u64 ((((Sp.wh a) % 18446744073709551616) + ((Sp.wh b) % 18446744073709551616) + (((Sp.wl a) + (Sp.wl b) + 0) / 18446744073709551616)) % 18446744073709551616))] [(3, ⟨[.int .i64 0, .int .u64 0], 90, true, 2⟩)] ?_
 refine aw_p 31 (
  .a 1 4 <| .p (qJ (Sp.s64 ((((Sp.wh a) % 18446744073709551616) + ((Sp.wh b) % 18446744073709551616) + (((Sp.wl a) + (Sp.wl b) + 0) / 18446744073709551616)) % 18446744073709551616)) (Sp.bX _) .i64) <| .e 3 4) ?_
 exact qF<|qB [.agg #[.int .i64 (Sp.s64 ((((Sp.wh a) % 18446744073709551616) + ((Sp.wh b) % 18446744073709551616) + (((Sp.wl a) + (Sp.wl b) + 0) / 18446744073709551616)) % 18446744073709551616)), .int .u64 (((Sp.wl a) + (Sp.wl b) + 0) % 18446744073709551616)]] (show (.agg #[.int .i64 (Sp.s64 ((((Sp.wh a) % 18446744073709551616) + ((Sp.wh b) % 18446744073709551616) + (((Sp.wl a) + (Sp.wl b) + 0) / 18446744073709551616)) % 18446744073709551616)), .int .u64 (((Sp.wl a) + (Sp.wl b) + 0) % 18446744073709551616)] : Value) = (.agg #[.int .i64 (Sp.wh (a + b)), .int .u64 (Sp.wl (a + b))]) from (congrArg (fun z : List Value => Value.agg z.toArray) (jB (congrArg (Value.int .i64) (show (Sp.s64 ((((Sp.wh a) % 18446744073709551616) + ((Sp.wh b) % 18446744073709551616) + (((Sp.wl a) + (Sp.wl b) + 0) / 18446744073709551616)) % 18446744073709551616)) = (Sp.wh (a + b)) from by (simp only [Sp.wh, Sp.wl, Sp.s64] at *; omega))) (jB (congrArg (Value.int .u64) (show (((Sp.wl a) + (Sp.wl b) + 0) % 18446744073709551616) = (Sp.wl (a + b)) from by (simp only [Sp.wh, Sp.wl, Sp.s64] at *; omega))) rfl))))
theorem wsub_ok (a b : Int) :
    AC Try.prog 175 0 ([.agg #[.int .i64 (Sp.wh a), .int .u64 (Sp.wl a)], .agg #[.int .i64 (Sp.wh b), .int .u64 (Sp.wl b)]]) [] (.agg #[.int .i64 (Sp.wh (a - b)), .int .u64 (Sp.wl (a - b))]) [] := by
 have wla := Sp.tY a; have wha := Sp.tZ a; have wlb := Sp.tY b; have whb := Sp.tZ b
 refine qK Try.func175 (fun w0 W pin => ?_)
 refine aw_e 3 3 1<|aw_p 7 (
  .a 4 4 <| .p (fR (rF Try.func178 kK kK kK kK (Sp.wl a) (Sp.wl b) 0 oO oO oO oO oO oO)) <| .e 5 4) ?_
 refine aw_p 15 (
  .a 2 4 <| .p (qJ ((Sp.wh a) % 18446744073709551616) (Sp.ulow) .u64) <| .a 2 4 <| .p (qJ ((Sp.wh b) % 18446744073709551616) (Sp.ulow) .u64) <| .a 1 4 <|
  .p (fR (rF Try.func178 kK kK kK kK ((Sp.wh a) % 18446744073709551616) ((Sp.wh b) % 18446744073709551616) (-(((Sp.wl a) - (Sp.wl b) - 0) / 18446744073709551616)) oO oO oO oO oO oO)) <|
  .e 5 4) ?_
 refine aw_w [(4, .pointer (some ⟨3, 0, none⟩)), (5, .int .u64 (((Sp.wl a) - (Sp.wl b) - 0) % 18446744073709551616)), (7, .int .u64 ((((Sp.wh a) % 18446744073709551616) - ((Sp.wh b) % 18446744073709551616) - (-(((Sp.wl a) - (Sp.wl b) - 0) / 18446744073709551616))) % 18446744073709551616))] [(3, ⟨[.int .i64 0, .int .u64 0], 90, true, 2⟩)] ?_
 refine aw_p 31 (
  .a 1 4 <| .p (qJ (Sp.s64 ((((Sp.wh a) % 18446744073709551616) - ((Sp.wh b) % 18446744073709551616) - (-(((Sp.wl a) - (Sp.wl b) - 0) / 18446744073709551616))) % 18446744073709551616)) (Sp.bX _) .i64) <| .e 3 4) ?_
 exact qF<|qB [.agg #[.int .i64 (Sp.s64 ((((Sp.wh a) % 18446744073709551616) - ((Sp.wh b) % 18446744073709551616) - (-(((Sp.wl a) - (Sp.wl b) - 0) / 18446744073709551616))) % 18446744073709551616)), .int .u64 (((Sp.wl a) - (Sp.wl b) - 0) % 18446744073709551616)]] (show (.agg #[.int .i64 (Sp.s64 ((((Sp.wh a) % 18446744073709551616) - ((Sp.wh b) % 18446744073709551616) - (-(((Sp.wl a) - (Sp.wl b) - 0) / 18446744073709551616))) % 18446744073709551616)), .int .u64 (((Sp.wl a) - (Sp.wl b) - 0) % 18446744073709551616)] : Value) = (.agg #[.int .i64 (Sp.wh (a - b)), .int .u64 (Sp.wl (a - b))]) from (congrArg (fun z : List Value => Value.agg z.toArray) (jB (congrArg (Value.int .i64) (show (Sp.s64 ((((Sp.wh a) % 18446744073709551616) - ((Sp.wh b) % 18446744073709551616) - (-(((Sp.wl a) - (Sp.wl b) - 0) / 18446744073709551616))) % 18446744073709551616)) = (Sp.wh (a - b)) from by (simp only [Sp.wh, Sp.wl, Sp.s64] at *; omega))) (jB (congrArg (Value.int .u64) (show (((Sp.wl a) - (Sp.wl b) - 0) % 18446744073709551616) = (Sp.wl (a - b)) from by (simp only [Sp.wh, Sp.wl, Sp.s64] at *; omega))) rfl))))
theorem dW (a : Int) :
    AC Try.prog 163 0 ([.agg #[.int .i64 (Sp.wh a), .int .u64 (Sp.wl a)]]) [] (.agg #[.int .i64 (Sp.wh (-a)), .int .u64 (Sp.wl (-a))]) [] := by
 refine qK Try.func163 (fun w0 W pin => ?_)
 refine aw_e 3 2 1<|aw_p 7 (
  .a 2 3 <| .p (qC (wsub_ok 0 a)) <| .e 1 3) ?_
 exact qF<|qB [.agg #[.int .i64 (Sp.wh (0 - a)), .int .u64 (Sp.wl (0 - a))]] (show (.agg #[.int .i64 (Sp.wh (0 - a)), .int .u64 (Sp.wl (0 - a))] : Value) = (.agg #[.int .i64 (Sp.wh (-a)), .int .u64 (Sp.wl (-a))]) from (congrArg (fun z : List Value => Value.agg z.toArray) (jB (congrArg (Value.int .i64) (show (Sp.wh (0 - a)) = (Sp.wh (-a)) from by (rw [Int.zero_sub]))) (jB (congrArg (Value.int .u64) (show (Sp.wl (0 - a)) = (Sp.wl (-a)) from by (rw [Int.zero_sub]))) rfl))))
theorem wcmp_ok (a b : Int) (zla : -170141183460469231731687303715884105728 ≤ a) (zua : a < 170141183460469231731687303715884105728) (zlb : -170141183460469231731687303715884105728 ≤ b) (zub : b < 170141183460469231731687303715884105728) :
    AC Try.prog 95 0 ([.agg #[.int .i64 (Sp.wh a), .int .u64 (Sp.wl a)], .agg #[.int .i64 (Sp.wh b), .int .u64 (Sp.wl b)]]) [] (.int .i64 (Sp.cmp a b)) [] := by
 have wla := Sp.tY a; have wha := Sp.tZ a; have wia := Sp.sD zla zua; have wma : Sp.wl a = a % 18446744073709551616 := rfl; have wlb := Sp.tY b; have whb := Sp.tZ b; have wib := Sp.sD zlb zub; have wmb : Sp.wl b = b % 18446744073709551616 := rfl
 refine qK Try.func95 (fun w0 W pin => ?_)
 refine aw_e 3 3 1<|qD 6 7<|qM 0 13<|aw_p 27 (
  .a 2 3 <| .p (qV (decide (a = b)) (Sp.w_eq zla zua zlb zub)) <| .e 1 3) ?_
 refine qY 54 55 (decide (a = b)) (fun h1 => ?_) (fun h1 => ?_)
 ·have h1p : ((a = b)) := pB h1
  exact aw_e 109 1 3<|qF<|qB [.int .i64 0] (show (.int .i64 0 : Value) = (.int .i64 (Sp.cmp a b)) from (congrArg (Value.int .i64) (show 0 = (Sp.cmp a b) from by (simp only [Sp.cmp]; (repeat' split) <;> omega))))
 have h1p : ¬ ((a = b)) := pB h1
 rcases Bool.eq_false_or_eq_true (decide ((Sp.wh a) < (Sp.wh b))) with h2 | h2
 ·have h2p : (((Sp.wh a) < (Sp.wh b))) := pB h2
  refine aw_p 111 (
   .a 4 3 <| .p (qN true (h2)) <| .e 15 3) ?_
  exact qR 222<|aw_e 445 1 3<|qF<|qB [.int .i64 (-1)] (show (.int .i64 (-1) : Value) = (.int .i64 (Sp.cmp a b)) from (congrArg (Value.int .i64) (show (-1) = (Sp.cmp a b) from by (simp only [Sp.cmp]; (repeat' split) <;> omega))))
 have h2p : ¬ (((Sp.wh a) < (Sp.wh b))) := pB h2
 rcases Bool.eq_false_or_eq_true ((Sp.wh a) == (Sp.wh b)) with h3 | h3
 ·have h3p : (((Sp.wh a) = (Sp.wh b))) := pB h3
  refine aw_p 111 (
   .a 4 3 <| .p (qN false (h2)) <| .a 5 3 <| .p (qN true (h3)) <| .e 9 3) ?_
  refine qY 222 223 (decide ((Sp.wl a) < (Sp.wl b))) (fun h4 => ?_) (fun h4 => ?_)
  ·have h4p : (((Sp.wl a) < (Sp.wl b))) := pB h4
   exact aw_e 445 1 3<|qF<|qB [.int .i64 (-1)] (show (.int .i64 (-1) : Value) = (.int .i64 (Sp.cmp a b)) from (congrArg (Value.int .i64) (show (-1) = (Sp.cmp a b) from by (simp only [Sp.cmp]; (repeat' split) <;> omega))))
  have h4p : ¬ (((Sp.wl a) < (Sp.wl b))) := pB h4
  exact qH<|aw_e 15 1 3<|qF<|qB [.int .i64 1] (show (.int .i64 1 : Value) = (.int .i64 (Sp.cmp a b)) from (congrArg (Value.int .i64) (show 1 = (Sp.cmp a b) from by (simp only [Sp.cmp]; (repeat' split) <;> omega))))
 have h3p : ¬ (((Sp.wh a) = (Sp.wh b))) := pB h3
 refine aw_p 111 (
  .a 4 3 <| .p (qN false (h2)) <| .a 5 3 <| .p (qN false (h3)) <| .e 9 3) ?_
 exact qP 223<|qH<|aw_e 15 1 3<|qF<|qB [.int .i64 1] (show (.int .i64 1 : Value) = (.int .i64 (Sp.cmp a b)) from (congrArg (Value.int .i64) (show 1 = (Sp.cmp a b) from by (simp only [Sp.cmp]; (repeat' split) <;> omega))))
theorem wmag_ok (a : Int) (zla : -170141183460469231731687303715884105728 ≤ a) (zua : a < 170141183460469231731687303715884105728) :
    AC Try.prog 161 0 ([.agg #[.int .i64 (Sp.wh a), .int .u64 (Sp.wl a)]]) [] (.tuple #[.int .u64 ((a.natAbs : Int) / 18446744073709551616), .int .u64 ((a.natAbs : Int) % 18446744073709551616)]) [] := by
 have wla := Sp.tY a; have wha := Sp.tZ a; have wia := Sp.sD zla zua; have wma : Sp.wl a = a % 18446744073709551616 := rfl
 refine qK Try.func161 (fun w0 W pin => ?_)
 refine aw_e 3 3 1<|qD 6 7<|aw_p 13 (
  .a 2 2 <| .p (qN (decide (a < 0)) (Sp.wh_neg zla zua)) <| .nil _ _) ?_
 refine qY 26 27 (decide (a < 0)) (fun h1 => ?_) (fun h1 => ?_)
 ·have h1p : ((a < 0)) := pB h1
  refine qW (
   .a 1 2 <| .p (qC (dW a)) <| .e 1 2) ?_
  refine aw_d 15 (
   .a 2 2 <| .p (qJ ((Sp.wh (-a)) % 18446744073709551616) (Sp.ulow) .u64) <| .e 4 2) ?_
  exact qF<|qB [.int .u64 ((Sp.wh (-a)) % 18446744073709551616), .int .u64 (Sp.wl (-a))] (show (.tuple #[.int .u64 ((Sp.wh (-a)) % 18446744073709551616), .int .u64 (Sp.wl (-a))] : Value) = (.tuple #[.int .u64 ((a.natAbs : Int) / 18446744073709551616), .int .u64 ((a.natAbs : Int) % 18446744073709551616)]) from (congrArg (fun z : List Value => Value.tuple z.toArray) (jB (congrArg (Value.int .u64) (show ((Sp.wh (-a)) % 18446744073709551616) = ((a.natAbs : Int) / 18446744073709551616) from by (simp only [Sp.wh, Sp.wl, Sp.s64] at *; omega))) (jB (congrArg (Value.int .u64) (show (Sp.wl (-a)) = ((a.natAbs : Int) % 18446744073709551616) from by (simp only [Sp.wh, Sp.wl, Sp.s64] at *; omega))) rfl))))
 have h1p : ¬ ((a < 0)) := pB h1
 refine qH<|aw_d 15 (
  .a 2 2 <| .p (qJ ((Sp.wh a) % 18446744073709551616) (Sp.ulow) .u64) <| .e 4 2) ?_
 exact qF<|qB [.int .u64 ((Sp.wh a) % 18446744073709551616), .int .u64 (Sp.wl a)] (show (.tuple #[.int .u64 ((Sp.wh a) % 18446744073709551616), .int .u64 (Sp.wl a)] : Value) = (.tuple #[.int .u64 ((a.natAbs : Int) / 18446744073709551616), .int .u64 ((a.natAbs : Int) % 18446744073709551616)]) from (congrArg (fun z : List Value => Value.tuple z.toArray) (jB (congrArg (Value.int .u64) (show ((Sp.wh a) % 18446744073709551616) = ((a.natAbs : Int) / 18446744073709551616) from by (simp only [Sp.wh, Sp.wl, Sp.s64] at *; omega))) (jB (congrArg (Value.int .u64) (show (Sp.wl a) = ((a.natAbs : Int) % 18446744073709551616) from by (simp only [Sp.wh, Sp.wl, Sp.s64] at *; omega))) rfl))))
theorem tX (a n : Int) (zla : -170141183460469231731687303715884105728 ≤ a) (zua : a < 170141183460469231731687303715884105728) (zln : -9223372036854775808 ≤ n) (zun : n ≤ 9223372036854775807) :
    AC Try.prog 128 0 ([.agg #[.int .i64 (Sp.wh a), .int .u64 (Sp.wl a)], .int .i64 n]) [] (.tuple #[.agg #[.int .i64 (Sp.wh (Sp.tm (a * n))), .int .u64 (Sp.wl (Sp.tm (a * n)))], .int .i64 (Sp.tmE (a * n))]) [] := by
 have wla := Sp.tY a; have wha := Sp.tZ a; have wia := Sp.sD zla zua; have wma : Sp.wl a = a % 18446744073709551616 := rfl
 refine qK Try.func128 (fun w0 W pin => ?_)
 refine aw_e 3 3 1<|aw_p 7 (
  .a 2 3 <| .p (qN (decide (a < 0)) (Sp.wh_neg zla zua)) <| .e 4 3) ?_
 refine aw_p 15 (
  .a 1 3 <| .p (qC (wmag_ok a oO oO)) <| .e 5 3) ?_
 refine aw_p 31 (
  .a 1 3 <| .p (qJ (n % 18446744073709551616) (Sp.ulow) .u64) <| .e 1 3) ?_
 refine qD 62 63<|aw_e 125 2 3<|qY 250 251 (decide (n < 0)) (fun h1 => ?_) (fun h1 => ?_)
 ·have h1p : ((n < 0)) := pB h1
  refine qW (
   .a 1 3 <| .p (qJ (n.natAbs : Int) ((show (IntKind.wrap .u64 (0 - (n % 18446744073709551616))) = (n.natAbs : Int) from (by rw [IntKind.wrap_u64]; omega))) .u64) <| .e 1 3) ?_
  refine aw_gen (fun z : Int => (fun (m : Int) => mkSt 0 [(4, .pointer (some ⟨2, 0, none⟩)), (5, .int .i64 0), (6, .bool (!((decide (a < 0)) == (decide (n < 0))))), (7, .int .u64 ((a.natAbs : Int) / 18446744073709551616)), (8, .int .u64 ((a.natAbs : Int) % 18446744073709551616)), (9, .int .u64 m)] [(2, ⟨[.int .i64 0, .int .u64 0], 90, true, 2⟩)]) z) (fun z : Int => (fun (m : Int) => (m = (n.natAbs : Int))) z) ((n.natAbs : Int)) (show ((n.natAbs : Int) = (n.natAbs : Int)) from by omega) [(4, .pointer (some ⟨2, 0, none⟩)), (5, .int .i64 0), (6, .bool (!((decide (a < 0)) == (decide (n < 0))))), (7, .int .u64 ((a.natAbs : Int) / 18446744073709551616)), (8, .int .u64 ((a.natAbs : Int) % 18446744073709551616)), (9, .int .u64 (n.natAbs : Int))] [(2, ⟨[.int .i64 0, .int .u64 0], 90, true, 2⟩)] (fun z hz => ?_)
  obtain ⟨m, hv⟩ : ∃ y, y = z := ⟨z, rfl⟩; subst hv
  have hz' : (m = (n.natAbs : Int)) := hz
  have hm := hz'
  clear hz
  obtain ⟨ph0, ph1, pl0, pl1, pa, pb⟩ := Sp.dY zla zua zln zun hm
  show AW _ _ _ (mkSt _ _ _) _
  refine aw_p 127 (
   .a 2 3 <| .p (qC (bJ ((a.natAbs : Int) / 18446744073709551616) m oO oO oO oO)) <| .e 5 3) ?_
  refine aw_p 255 (
   .a 2 3 <| .p (qC (bJ ((a.natAbs : Int) % 18446744073709551616) m oO oO oO oO)) <| .e 5 3) ?_
  refine aw_p 511 (
   .a 2 3 <| .p (fR (run_add64 Try.func162 kK kK kK kK (((a.natAbs : Int) / 18446744073709551616) * m % 18446744073709551616) (((a.natAbs : Int) % 18446744073709551616) * m / 18446744073709551616) 0 oO oO oO oO)) <|
   .e 5 3) ?_
  refine qD 1022 1023 ?_
  rcases Bool.eq_false_or_eq_true (decide (((((a.natAbs : Int) / 18446744073709551616) * m / 18446744073709551616) + (((((a.natAbs : Int) / 18446744073709551616) * m % 18446744073709551616) + (((a.natAbs : Int) % 18446744073709551616) * m / 18446744073709551616) + 0) / 18446744073709551616)) > 0)) with h2 | h2
  ·have h2p : ((((((a.natAbs : Int) / 18446744073709551616) * m / 18446744073709551616) + (((((a.natAbs : Int) / 18446744073709551616) * m % 18446744073709551616) + (((a.natAbs : Int) % 18446744073709551616) * m / 18446744073709551616) + 0) / 18446744073709551616)) > 0)) := pB h2
   refine aw_p 2045 (
    .a 2 3 <|
    .p (qJ ((((a.natAbs : Int) / 18446744073709551616) * m / 18446744073709551616) + (((((a.natAbs : Int) / 18446744073709551616) * m % 18446744073709551616) + (((a.natAbs : Int) % 18446744073709551616) * m / 18446744073709551616) + 0) / 18446744073709551616)) (wrap_u64 oO oO) .u64) <|
    .p (qN true (h2)) <| .e 16 3) ?_
   exact qR 4090<|aw_e 8181 3 3<|qF<|qB [.agg #[.int .i64 0, .int .u64 0], .int .i64 2] (show (.tuple #[.agg #[.int .i64 0, .int .u64 0], .int .i64 2] : Value) = (.tuple #[.agg #[.int .i64 (Sp.wh (Sp.tm (a * n))), .int .u64 (Sp.wl (Sp.tm (a * n)))], .int .i64 (Sp.tmE (a * n))]) from (congrArg (fun z : List Value => Value.tuple z.toArray) (jB (congrArg (fun z : List Value => Value.agg z.toArray) (jB (congrArg (Value.int .i64) (show 0 = (Sp.wh (Sp.tm (a * n))) from by (first | (rw [(Sp.jF (x := a * n) oO).1]; decide) | (rw [(Sp.jF (x := a * n) oO).2]) | (rw [(Sp.qU (x := a * n) oO).1]; congr 1; omega) | (rw [(Sp.qU (x := a * n) oO).2])))) (jB (congrArg (Value.int .u64) (show 0 = (Sp.wl (Sp.tm (a * n))) from by (first | (rw [(Sp.jF (x := a * n) oO).1]; decide) | (rw [(Sp.jF (x := a * n) oO).2]) | (rw [(Sp.qU (x := a * n) oO).1]; congr 1; omega) | (rw [(Sp.qU (x := a * n) oO).2])))) rfl))) (jB (congrArg (Value.int .i64) (show 2 = (Sp.tmE (a * n)) from by (first | (rw [(Sp.jF (x := a * n) oO).1]; decide) | (rw [(Sp.jF (x := a * n) oO).2]) | (rw [(Sp.qU (x := a * n) oO).1]; congr 1; omega) | (rw [(Sp.qU (x := a * n) oO).2])))) rfl))))
  have h2p : ¬ ((((((a.natAbs : Int) / 18446744073709551616) * m / 18446744073709551616) + (((((a.natAbs : Int) / 18446744073709551616) * m % 18446744073709551616) + (((a.natAbs : Int) % 18446744073709551616) * m / 18446744073709551616) + 0) / 18446744073709551616)) > 0)) := pB h2
  rcases Bool.eq_false_or_eq_true (decide ((((((a.natAbs : Int) / 18446744073709551616) * m % 18446744073709551616) + (((a.natAbs : Int) % 18446744073709551616) * m / 18446744073709551616) + 0) % 18446744073709551616) > 9223372036854775808)) with h3 | h3
  ·have h3p : (((((((a.natAbs : Int) / 18446744073709551616) * m % 18446744073709551616) + (((a.natAbs : Int) % 18446744073709551616) * m / 18446744073709551616) + 0) % 18446744073709551616) > 9223372036854775808)) := pB h3
   refine aw_p 2045 (
    .a 2 3 <|
    .p (qJ ((((a.natAbs : Int) / 18446744073709551616) * m / 18446744073709551616) + (((((a.natAbs : Int) / 18446744073709551616) * m % 18446744073709551616) + (((a.natAbs : Int) % 18446744073709551616) * m / 18446744073709551616) + 0) / 18446744073709551616)) (wrap_u64 oO oO) .u64) <|
    .p (qN false (h2)) <| .a 2 3 <| .p (qN true (h3)) <| .e 13 3) ?_
   exact qR 4090<|aw_e 8181 3 3<|qF<|qB [.agg #[.int .i64 0, .int .u64 0], .int .i64 2] (show (.tuple #[.agg #[.int .i64 0, .int .u64 0], .int .i64 2] : Value) = (.tuple #[.agg #[.int .i64 (Sp.wh (Sp.tm (a * n))), .int .u64 (Sp.wl (Sp.tm (a * n)))], .int .i64 (Sp.tmE (a * n))]) from (congrArg (fun z : List Value => Value.tuple z.toArray) (jB (congrArg (fun z : List Value => Value.agg z.toArray) (jB (congrArg (Value.int .i64) (show 0 = (Sp.wh (Sp.tm (a * n))) from by (first | (rw [(Sp.jF (x := a * n) oO).1]; decide) | (rw [(Sp.jF (x := a * n) oO).2]) | (rw [(Sp.qU (x := a * n) oO).1]; congr 1; omega) | (rw [(Sp.qU (x := a * n) oO).2])))) (jB (congrArg (Value.int .u64) (show 0 = (Sp.wl (Sp.tm (a * n))) from by (first | (rw [(Sp.jF (x := a * n) oO).1]; decide) | (rw [(Sp.jF (x := a * n) oO).2]) | (rw [(Sp.qU (x := a * n) oO).1]; congr 1; omega) | (rw [(Sp.qU (x := a * n) oO).2])))) rfl))) (jB (congrArg (Value.int .i64) (show 2 = (Sp.tmE (a * n)) from by (first | (rw [(Sp.jF (x := a * n) oO).1]; decide) | (rw [(Sp.jF (x := a * n) oO).2]) | (rw [(Sp.qU (x := a * n) oO).1]; congr 1; omega) | (rw [(Sp.qU (x := a * n) oO).2])))) rfl))))
  have h3p : ¬ (((((((a.natAbs : Int) / 18446744073709551616) * m % 18446744073709551616) + (((a.natAbs : Int) % 18446744073709551616) * m / 18446744073709551616) + 0) % 18446744073709551616) > 9223372036854775808)) := pB h3
  rcases Bool.eq_false_or_eq_true ((((((a.natAbs : Int) / 18446744073709551616) * m % 18446744073709551616) + (((a.natAbs : Int) % 18446744073709551616) * m / 18446744073709551616) + 0) % 18446744073709551616) == 9223372036854775808) with h4 | h4
  ·have h4p : (((((((a.natAbs : Int) / 18446744073709551616) * m % 18446744073709551616) + (((a.natAbs : Int) % 18446744073709551616) * m / 18446744073709551616) + 0) % 18446744073709551616) = 9223372036854775808)) := pB h4
   rcases Bool.eq_false_or_eq_true (decide ((((a.natAbs : Int) % 18446744073709551616) * m % 18446744073709551616) > 0)) with h5 | h5
   ·have h5p : (((((a.natAbs : Int) % 18446744073709551616) * m % 18446744073709551616) > 0)) := pB h5
    refine aw_p 2045 (
     .a 2 3 <|
     .p (qJ ((((a.natAbs : Int) / 18446744073709551616) * m / 18446744073709551616) + (((((a.natAbs : Int) / 18446744073709551616) * m % 18446744073709551616) + (((a.natAbs : Int) % 18446744073709551616) * m / 18446744073709551616) + 0) / 18446744073709551616)) (wrap_u64 oO oO) .u64) <|
     .p (qN false (h2)) <| .a 2 3 <| .p (qN false (h3)) <| .a 3 3 <| .p (qN true (h4)) <| .a 2 3 <| .p (qN true (h5)) <| .e 6 3) ?_
    exact qR 4090<|aw_e 8181 3 3<|qF<|qB [.agg #[.int .i64 0, .int .u64 0], .int .i64 2] (show (.tuple #[.agg #[.int .i64 0, .int .u64 0], .int .i64 2] : Value) = (.tuple #[.agg #[.int .i64 (Sp.wh (Sp.tm (a * n))), .int .u64 (Sp.wl (Sp.tm (a * n)))], .int .i64 (Sp.tmE (a * n))]) from (congrArg (fun z : List Value => Value.tuple z.toArray) (jB (congrArg (fun z : List Value => Value.agg z.toArray) (jB (congrArg (Value.int .i64) (show 0 = (Sp.wh (Sp.tm (a * n))) from by (first | (rw [(Sp.jF (x := a * n) oO).1]; decide) | (rw [(Sp.jF (x := a * n) oO).2]) | (rw [(Sp.qU (x := a * n) oO).1]; congr 1; omega) | (rw [(Sp.qU (x := a * n) oO).2])))) (jB (congrArg (Value.int .u64) (show 0 = (Sp.wl (Sp.tm (a * n))) from by (first | (rw [(Sp.jF (x := a * n) oO).1]; decide) | (rw [(Sp.jF (x := a * n) oO).2]) | (rw [(Sp.qU (x := a * n) oO).1]; congr 1; omega) | (rw [(Sp.qU (x := a * n) oO).2])))) rfl))) (jB (congrArg (Value.int .i64) (show 2 = (Sp.tmE (a * n)) from by (first | (rw [(Sp.jF (x := a * n) oO).1]; decide) | (rw [(Sp.jF (x := a * n) oO).2]) | (rw [(Sp.qU (x := a * n) oO).1]; congr 1; omega) | (rw [(Sp.qU (x := a * n) oO).2])))) rfl))))
   have h5p : ¬ (((((a.natAbs : Int) % 18446744073709551616) * m % 18446744073709551616) > 0)) := pB h5
   refine aw_p 2045 (
    .a 2 3 <|
    .p (qJ ((((a.natAbs : Int) / 18446744073709551616) * m / 18446744073709551616) + (((((a.natAbs : Int) / 18446744073709551616) * m % 18446744073709551616) + (((a.natAbs : Int) % 18446744073709551616) * m / 18446744073709551616) + 0) / 18446744073709551616)) (wrap_u64 oO oO) .u64) <|
    .p (qN false (h2)) <| .a 2 3 <| .p (qN false (h3)) <| .a 3 3 <| .p (qN true (h4)) <| .a 2 3 <| .p (qN false (h5)) <| .a 2 3 <| .p (qN ((decide (a < 0)) == (decide (n < 0))) (Bool.not_not _)) <| .e 3 3) ?_
   refine qY 4090 4091 ((decide (a < 0)) == (decide (n < 0))) (fun h6 => ?_) (fun h6 => ?_)
   ·have h6p : ((((a < 0)) ↔ ((n < 0)))) := pB h6
    exact aw_e 8181 3 3<|qF<|qB [.agg #[.int .i64 0, .int .u64 0], .int .i64 2] (show (.tuple #[.agg #[.int .i64 0, .int .u64 0], .int .i64 2] : Value) = (.tuple #[.agg #[.int .i64 (Sp.wh (Sp.tm (a * n))), .int .u64 (Sp.wl (Sp.tm (a * n)))], .int .i64 (Sp.tmE (a * n))]) from (congrArg (fun z : List Value => Value.tuple z.toArray) (jB (congrArg (fun z : List Value => Value.agg z.toArray) (jB (congrArg (Value.int .i64) (show 0 = (Sp.wh (Sp.tm (a * n))) from by (first | (rw [(Sp.jF (x := a * n) oO).1]; decide) | (rw [(Sp.jF (x := a * n) oO).2]) | (rw [(Sp.qU (x := a * n) oO).1]; congr 1; omega) | (rw [(Sp.qU (x := a * n) oO).2])))) (jB (congrArg (Value.int .u64) (show 0 = (Sp.wl (Sp.tm (a * n))) from by (first | (rw [(Sp.jF (x := a * n) oO).1]; decide) | (rw [(Sp.jF (x := a * n) oO).2]) | (rw [(Sp.qU (x := a * n) oO).1]; congr 1; omega) | (rw [(Sp.qU (x := a * n) oO).2])))) rfl))) (jB (congrArg (Value.int .i64) (show 2 = (Sp.tmE (a * n)) from by (first | (rw [(Sp.jF (x := a * n) oO).1]; decide) | (rw [(Sp.jF (x := a * n) oO).2]) | (rw [(Sp.qU (x := a * n) oO).1]; congr 1; omega) | (rw [(Sp.qU (x := a * n) oO).2])))) rfl))))
   have h6p : ¬ ((((a < 0)) ↔ ((n < 0)))) := pB h6
   refine qH<|aw_p 2047 (
    .a 1 3 <|
    .p (qJ (Sp.wh ((a.natAbs : Int) / 18446744073709551616 * m * 18446744073709551616 + (a.natAbs : Int) % 18446744073709551616 * m)) ((show (IntKind.wrap .i64 (((((a.natAbs : Int) / 18446744073709551616) * m % 18446744073709551616) + (((a.natAbs : Int) % 18446744073709551616) * m / 18446744073709551616) + 0) % 18446744073709551616)) = (Sp.wh ((a.natAbs : Int) / 18446744073709551616 * m * 18446744073709551616 + (a.natAbs : Int) % 18446744073709551616 * m)) from z33)) .i64) <|
    .p (qJ (Sp.wl ((a.natAbs : Int) / 18446744073709551616 * m * 18446744073709551616 + (a.natAbs : Int) % 18446744073709551616 * m)) ((show (((a.natAbs : Int) % 18446744073709551616) * m % 18446744073709551616) = (Sp.wl ((a.natAbs : Int) / 18446744073709551616 * m * 18446744073709551616 + (a.natAbs : Int) % 18446744073709551616 * m)) from (by simp only [Sp.wl]; omega))) .u64) <|
    .e 3 3) ?_
   refine qD 4094 4095<|aw_p 8189 (
    .p (qN true (not_f h6)) <| .nil _ _) ?_
   refine qR 16378<|qW (
    .a 1 4 <| .p (qC (dW ((a.natAbs : Int) / 18446744073709551616 * m * 18446744073709551616 + (a.natAbs : Int) % 18446744073709551616 * m))) <| .e 1 4) ?_
   exact aw_e 8191 3 4<|qF<|qB [.agg #[.int .i64 (Sp.wh (-((a.natAbs : Int) / 18446744073709551616 * m * 18446744073709551616 + (a.natAbs : Int) % 18446744073709551616 * m))), .int .u64 (Sp.wl (-((a.natAbs : Int) / 18446744073709551616 * m * 18446744073709551616 + (a.natAbs : Int) % 18446744073709551616 * m)))], .int .i64 0] (show (.tuple #[.agg #[.int .i64 (Sp.wh (-((a.natAbs : Int) / 18446744073709551616 * m * 18446744073709551616 + (a.natAbs : Int) % 18446744073709551616 * m))), .int .u64 (Sp.wl (-((a.natAbs : Int) / 18446744073709551616 * m * 18446744073709551616 + (a.natAbs : Int) % 18446744073709551616 * m)))], .int .i64 0] : Value) = (.tuple #[.agg #[.int .i64 (Sp.wh (Sp.tm (a * n))), .int .u64 (Sp.wl (Sp.tm (a * n)))], .int .i64 (Sp.tmE (a * n))]) from (congrArg (fun z : List Value => Value.tuple z.toArray) (jB (congrArg (fun z : List Value => Value.agg z.toArray) (jB (congrArg (Value.int .i64) (show (Sp.wh (-((a.natAbs : Int) / 18446744073709551616 * m * 18446744073709551616 + (a.natAbs : Int) % 18446744073709551616 * m))) = (Sp.wh (Sp.tm (a * n))) from by (first | (rw [(Sp.jF (x := a * n) oO).1]; decide) | (rw [(Sp.jF (x := a * n) oO).2]) | (rw [(Sp.qU (x := a * n) oO).1]; congr 1; omega) | (rw [(Sp.qU (x := a * n) oO).2])))) (jB (congrArg (Value.int .u64) (show (Sp.wl (-((a.natAbs : Int) / 18446744073709551616 * m * 18446744073709551616 + (a.natAbs : Int) % 18446744073709551616 * m))) = (Sp.wl (Sp.tm (a * n))) from by (first | (rw [(Sp.jF (x := a * n) oO).1]; decide) | (rw [(Sp.jF (x := a * n) oO).2]) | (rw [(Sp.qU (x := a * n) oO).1]; congr 1; omega) | (rw [(Sp.qU (x := a * n) oO).2])))) rfl))) (jB (congrArg (Value.int .i64) (show 0 = (Sp.tmE (a * n)) from by (first | (rw [(Sp.jF (x := a * n) oO).1]; decide) | (rw [(Sp.jF (x := a * n) oO).2]) | (rw [(Sp.qU (x := a * n) oO).1]; congr 1; omega) | (rw [(Sp.qU (x := a * n) oO).2])))) rfl))))
  have h4p : ¬ (((((((a.natAbs : Int) / 18446744073709551616) * m % 18446744073709551616) + (((a.natAbs : Int) % 18446744073709551616) * m / 18446744073709551616) + 0) % 18446744073709551616) = 9223372036854775808)) := pB h4
  refine aw_p 2045 (
   .a 2 3 <|
   .p (qJ ((((a.natAbs : Int) / 18446744073709551616) * m / 18446744073709551616) + (((((a.natAbs : Int) / 18446744073709551616) * m % 18446744073709551616) + (((a.natAbs : Int) % 18446744073709551616) * m / 18446744073709551616) + 0) / 18446744073709551616)) (wrap_u64 oO oO) .u64) <|
   .p (qN false (h2)) <| .a 2 3 <| .p (qN false (h3)) <| .a 3 3 <| .p (qN false (h4)) <| .e 9 3) ?_
  refine qP 4091<|qH<|aw_p 2047 (
   .a 1 3 <|
   .p (qJ (Sp.wh ((a.natAbs : Int) / 18446744073709551616 * m * 18446744073709551616 + (a.natAbs : Int) % 18446744073709551616 * m)) ((show (IntKind.wrap .i64 (((((a.natAbs : Int) / 18446744073709551616) * m % 18446744073709551616) + (((a.natAbs : Int) % 18446744073709551616) * m / 18446744073709551616) + 0) % 18446744073709551616)) = (Sp.wh ((a.natAbs : Int) / 18446744073709551616 * m * 18446744073709551616 + (a.natAbs : Int) % 18446744073709551616 * m)) from z33)) .i64) <|
   .p (qJ (Sp.wl ((a.natAbs : Int) / 18446744073709551616 * m * 18446744073709551616 + (a.natAbs : Int) % 18446744073709551616 * m)) ((show (((a.natAbs : Int) % 18446744073709551616) * m % 18446744073709551616) = (Sp.wl ((a.natAbs : Int) / 18446744073709551616 * m * 18446744073709551616 + (a.natAbs : Int) % 18446744073709551616 * m)) from (by simp only [Sp.wl]; omega))) .u64) <|
   .e 3 3) ?_
  refine qD 4094 4095<|aw_e 8189 1 4<|qY 16378 16379 (!((decide (a < 0)) == (decide (n < 0)))) (fun h7 => ?_) (fun h7 => ?_)
  ·have h7p : (¬ ((((a < 0)) ↔ ((n < 0))))) := pB h7
   refine qW (
    .a 1 4 <| .p (qC (dW ((a.natAbs : Int) / 18446744073709551616 * m * 18446744073709551616 + (a.natAbs : Int) % 18446744073709551616 * m))) <| .e 1 4) ?_
   exact aw_e 8191 3 4<|qF<|qB [.agg #[.int .i64 (Sp.wh (-((a.natAbs : Int) / 18446744073709551616 * m * 18446744073709551616 + (a.natAbs : Int) % 18446744073709551616 * m))), .int .u64 (Sp.wl (-((a.natAbs : Int) / 18446744073709551616 * m * 18446744073709551616 + (a.natAbs : Int) % 18446744073709551616 * m)))], .int .i64 0] (show (.tuple #[.agg #[.int .i64 (Sp.wh (-((a.natAbs : Int) / 18446744073709551616 * m * 18446744073709551616 + (a.natAbs : Int) % 18446744073709551616 * m))), .int .u64 (Sp.wl (-((a.natAbs : Int) / 18446744073709551616 * m * 18446744073709551616 + (a.natAbs : Int) % 18446744073709551616 * m)))], .int .i64 0] : Value) = (.tuple #[.agg #[.int .i64 (Sp.wh (Sp.tm (a * n))), .int .u64 (Sp.wl (Sp.tm (a * n)))], .int .i64 (Sp.tmE (a * n))]) from (congrArg (fun z : List Value => Value.tuple z.toArray) (jB (congrArg (fun z : List Value => Value.agg z.toArray) (jB (congrArg (Value.int .i64) (show (Sp.wh (-((a.natAbs : Int) / 18446744073709551616 * m * 18446744073709551616 + (a.natAbs : Int) % 18446744073709551616 * m))) = (Sp.wh (Sp.tm (a * n))) from by (first | (rw [(Sp.jF (x := a * n) oO).1]; decide) | (rw [(Sp.jF (x := a * n) oO).2]) | (rw [(Sp.qU (x := a * n) oO).1]; congr 1; omega) | (rw [(Sp.qU (x := a * n) oO).2])))) (jB (congrArg (Value.int .u64) (show (Sp.wl (-((a.natAbs : Int) / 18446744073709551616 * m * 18446744073709551616 + (a.natAbs : Int) % 18446744073709551616 * m))) = (Sp.wl (Sp.tm (a * n))) from by (first | (rw [(Sp.jF (x := a * n) oO).1]; decide) | (rw [(Sp.jF (x := a * n) oO).2]) | (rw [(Sp.qU (x := a * n) oO).1]; congr 1; omega) | (rw [(Sp.qU (x := a * n) oO).2])))) rfl))) (jB (congrArg (Value.int .i64) (show 0 = (Sp.tmE (a * n)) from by (first | (rw [(Sp.jF (x := a * n) oO).1]; decide) | (rw [(Sp.jF (x := a * n) oO).2]) | (rw [(Sp.qU (x := a * n) oO).1]; congr 1; omega) | (rw [(Sp.qU (x := a * n) oO).2])))) rfl))))
  have h7p : ¬ (¬ ((((a < 0)) ↔ ((n < 0))))) := pB h7
  exact qH<|aw_e 8191 3 4<|qF<|qB [.agg #[.int .i64 (Sp.wh ((a.natAbs : Int) / 18446744073709551616 * m * 18446744073709551616 + (a.natAbs : Int) % 18446744073709551616 * m)), .int .u64 (Sp.wl ((a.natAbs : Int) / 18446744073709551616 * m * 18446744073709551616 + (a.natAbs : Int) % 18446744073709551616 * m))], .int .i64 0] (show (.tuple #[.agg #[.int .i64 (Sp.wh ((a.natAbs : Int) / 18446744073709551616 * m * 18446744073709551616 + (a.natAbs : Int) % 18446744073709551616 * m)), .int .u64 (Sp.wl ((a.natAbs : Int) / 18446744073709551616 * m * 18446744073709551616 + (a.natAbs : Int) % 18446744073709551616 * m))], .int .i64 0] : Value) = (.tuple #[.agg #[.int .i64 (Sp.wh (Sp.tm (a * n))), .int .u64 (Sp.wl (Sp.tm (a * n)))], .int .i64 (Sp.tmE (a * n))]) from (congrArg (fun z : List Value => Value.tuple z.toArray) (jB (congrArg (fun z : List Value => Value.agg z.toArray) (jB (congrArg (Value.int .i64) (show (Sp.wh ((a.natAbs : Int) / 18446744073709551616 * m * 18446744073709551616 + (a.natAbs : Int) % 18446744073709551616 * m)) = (Sp.wh (Sp.tm (a * n))) from by (first | (rw [(Sp.jF (x := a * n) oO).1]; decide) | (rw [(Sp.jF (x := a * n) oO).2]) | (rw [(Sp.qU (x := a * n) oO).1]; congr 1; omega) | (rw [(Sp.qU (x := a * n) oO).2])))) (jB (congrArg (Value.int .u64) (show (Sp.wl ((a.natAbs : Int) / 18446744073709551616 * m * 18446744073709551616 + (a.natAbs : Int) % 18446744073709551616 * m)) = (Sp.wl (Sp.tm (a * n))) from by (first | (rw [(Sp.jF (x := a * n) oO).1]; decide) | (rw [(Sp.jF (x := a * n) oO).2]) | (rw [(Sp.qU (x := a * n) oO).1]; congr 1; omega) | (rw [(Sp.qU (x := a * n) oO).2])))) rfl))) (jB (congrArg (Value.int .i64) (show 0 = (Sp.tmE (a * n)) from by (first | (rw [(Sp.jF (x := a * n) oO).1]; decide) | (rw [(Sp.jF (x := a * n) oO).2]) | (rw [(Sp.qU (x := a * n) oO).1]; congr 1; omega) | (rw [(Sp.qU (x := a * n) oO).2])))) rfl))))
 have h1p : ¬ ((n < 0)) := pB h1
 refine qH<|aw_gen (fun z : Int => (fun (m : Int) => mkSt 0 [(4, .pointer (some ⟨2, 0, none⟩)), (5, .int .i64 0), (6, .bool (!((decide (a < 0)) == (decide (n < 0))))), (7, .int .u64 ((a.natAbs : Int) / 18446744073709551616)), (8, .int .u64 ((a.natAbs : Int) % 18446744073709551616)), (9, .int .u64 m)] [(2, ⟨[.int .i64 0, .int .u64 0], 90, true, 2⟩)]) z) (fun z : Int => (fun (m : Int) => (m = (n.natAbs : Int))) z) ((n % 18446744073709551616)) (show ((n % 18446744073709551616) = (n.natAbs : Int)) from by omega) [(4, .pointer (some ⟨2, 0, none⟩)), (5, .int .i64 0), (6, .bool (!((decide (a < 0)) == (decide (n < 0))))), (7, .int .u64 ((a.natAbs : Int) / 18446744073709551616)), (8, .int .u64 ((a.natAbs : Int) % 18446744073709551616)), (9, .int .u64 (n % 18446744073709551616))] [(2, ⟨[.int .i64 0, .int .u64 0], 90, true, 2⟩)] (fun z hz => ?_)
 obtain ⟨m, hv⟩ : ∃ y, y = z := ⟨z, rfl⟩; subst hv
 have hz' : (m = (n.natAbs : Int)) := hz
 have hm := hz'
 clear hz
 obtain ⟨ph0, ph1, pl0, pl1, pa, pb⟩ := Sp.dY zla zua zln zun hm
 show AW _ _ _ (mkSt _ _ _) _
 refine aw_p 127 (
  .a 2 3 <| .p (qC (bJ ((a.natAbs : Int) / 18446744073709551616) m oO oO oO oO)) <| .e 5 3) ?_
 refine aw_p 255 (
  .a 2 3 <| .p (qC (bJ ((a.natAbs : Int) % 18446744073709551616) m oO oO oO oO)) <| .e 5 3) ?_
 refine aw_p 511 (
  .a 2 3 <| .p (fR (run_add64 Try.func162 kK kK kK kK (((a.natAbs : Int) / 18446744073709551616) * m % 18446744073709551616) (((a.natAbs : Int) % 18446744073709551616) * m / 18446744073709551616) 0 oO oO oO oO)) <|
  .e 5 3) ?_
 refine qD 1022 1023 ?_
 rcases Bool.eq_false_or_eq_true (decide (((((a.natAbs : Int) / 18446744073709551616) * m / 18446744073709551616) + (((((a.natAbs : Int) / 18446744073709551616) * m % 18446744073709551616) + (((a.natAbs : Int) % 18446744073709551616) * m / 18446744073709551616) + 0) / 18446744073709551616)) > 0)) with h8 | h8
 ·have h8p : ((((((a.natAbs : Int) / 18446744073709551616) * m / 18446744073709551616) + (((((a.natAbs : Int) / 18446744073709551616) * m % 18446744073709551616) + (((a.natAbs : Int) % 18446744073709551616) * m / 18446744073709551616) + 0) / 18446744073709551616)) > 0)) := pB h8
  refine aw_p 2045 (
   .a 2 3 <|
   .p (qJ ((((a.natAbs : Int) / 18446744073709551616) * m / 18446744073709551616) + (((((a.natAbs : Int) / 18446744073709551616) * m % 18446744073709551616) + (((a.natAbs : Int) % 18446744073709551616) * m / 18446744073709551616) + 0) / 18446744073709551616)) (wrap_u64 oO oO) .u64) <|
   .p (qN true (h8)) <| .e 16 3) ?_
  exact qR 4090<|aw_e 8181 3 3<|qF<|qB [.agg #[.int .i64 0, .int .u64 0], .int .i64 2] (show (.tuple #[.agg #[.int .i64 0, .int .u64 0], .int .i64 2] : Value) = (.tuple #[.agg #[.int .i64 (Sp.wh (Sp.tm (a * n))), .int .u64 (Sp.wl (Sp.tm (a * n)))], .int .i64 (Sp.tmE (a * n))]) from (congrArg (fun z : List Value => Value.tuple z.toArray) (jB (congrArg (fun z : List Value => Value.agg z.toArray) (jB (congrArg (Value.int .i64) (show 0 = (Sp.wh (Sp.tm (a * n))) from by (first | (rw [(Sp.jF (x := a * n) oO).1]; decide) | (rw [(Sp.jF (x := a * n) oO).2]) | (rw [(Sp.qU (x := a * n) oO).1]; congr 1; omega) | (rw [(Sp.qU (x := a * n) oO).2])))) (jB (congrArg (Value.int .u64) (show 0 = (Sp.wl (Sp.tm (a * n))) from by (first | (rw [(Sp.jF (x := a * n) oO).1]; decide) | (rw [(Sp.jF (x := a * n) oO).2]) | (rw [(Sp.qU (x := a * n) oO).1]; congr 1; omega) | (rw [(Sp.qU (x := a * n) oO).2])))) rfl))) (jB (congrArg (Value.int .i64) (show 2 = (Sp.tmE (a * n)) from by (first | (rw [(Sp.jF (x := a * n) oO).1]; decide) | (rw [(Sp.jF (x := a * n) oO).2]) | (rw [(Sp.qU (x := a * n) oO).1]; congr 1; omega) | (rw [(Sp.qU (x := a * n) oO).2])))) rfl))))
 have h8p : ¬ ((((((a.natAbs : Int) / 18446744073709551616) * m / 18446744073709551616) + (((((a.natAbs : Int) / 18446744073709551616) * m % 18446744073709551616) + (((a.natAbs : Int) % 18446744073709551616) * m / 18446744073709551616) + 0) / 18446744073709551616)) > 0)) := pB h8
 rcases Bool.eq_false_or_eq_true (decide ((((((a.natAbs : Int) / 18446744073709551616) * m % 18446744073709551616) + (((a.natAbs : Int) % 18446744073709551616) * m / 18446744073709551616) + 0) % 18446744073709551616) > 9223372036854775808)) with h9 | h9
 ·have h9p : (((((((a.natAbs : Int) / 18446744073709551616) * m % 18446744073709551616) + (((a.natAbs : Int) % 18446744073709551616) * m / 18446744073709551616) + 0) % 18446744073709551616) > 9223372036854775808)) := pB h9
  refine aw_p 2045 (
   .a 2 3 <|
   .p (qJ ((((a.natAbs : Int) / 18446744073709551616) * m / 18446744073709551616) + (((((a.natAbs : Int) / 18446744073709551616) * m % 18446744073709551616) + (((a.natAbs : Int) % 18446744073709551616) * m / 18446744073709551616) + 0) / 18446744073709551616)) (wrap_u64 oO oO) .u64) <|
   .p (qN false (h8)) <| .a 2 3 <| .p (qN true (h9)) <| .e 13 3) ?_
  exact qR 4090<|aw_e 8181 3 3<|qF<|qB [.agg #[.int .i64 0, .int .u64 0], .int .i64 2] (show (.tuple #[.agg #[.int .i64 0, .int .u64 0], .int .i64 2] : Value) = (.tuple #[.agg #[.int .i64 (Sp.wh (Sp.tm (a * n))), .int .u64 (Sp.wl (Sp.tm (a * n)))], .int .i64 (Sp.tmE (a * n))]) from (congrArg (fun z : List Value => Value.tuple z.toArray) (jB (congrArg (fun z : List Value => Value.agg z.toArray) (jB (congrArg (Value.int .i64) (show 0 = (Sp.wh (Sp.tm (a * n))) from by (first | (rw [(Sp.jF (x := a * n) oO).1]; decide) | (rw [(Sp.jF (x := a * n) oO).2]) | (rw [(Sp.qU (x := a * n) oO).1]; congr 1; omega) | (rw [(Sp.qU (x := a * n) oO).2])))) (jB (congrArg (Value.int .u64) (show 0 = (Sp.wl (Sp.tm (a * n))) from by (first | (rw [(Sp.jF (x := a * n) oO).1]; decide) | (rw [(Sp.jF (x := a * n) oO).2]) | (rw [(Sp.qU (x := a * n) oO).1]; congr 1; omega) | (rw [(Sp.qU (x := a * n) oO).2])))) rfl))) (jB (congrArg (Value.int .i64) (show 2 = (Sp.tmE (a * n)) from by (first | (rw [(Sp.jF (x := a * n) oO).1]; decide) | (rw [(Sp.jF (x := a * n) oO).2]) | (rw [(Sp.qU (x := a * n) oO).1]; congr 1; omega) | (rw [(Sp.qU (x := a * n) oO).2])))) rfl))))
 have h9p : ¬ (((((((a.natAbs : Int) / 18446744073709551616) * m % 18446744073709551616) + (((a.natAbs : Int) % 18446744073709551616) * m / 18446744073709551616) + 0) % 18446744073709551616) > 9223372036854775808)) := pB h9
 rcases Bool.eq_false_or_eq_true ((((((a.natAbs : Int) / 18446744073709551616) * m % 18446744073709551616) + (((a.natAbs : Int) % 18446744073709551616) * m / 18446744073709551616) + 0) % 18446744073709551616) == 9223372036854775808) with h10 | h10
 ·have h10p : (((((((a.natAbs : Int) / 18446744073709551616) * m % 18446744073709551616) + (((a.natAbs : Int) % 18446744073709551616) * m / 18446744073709551616) + 0) % 18446744073709551616) = 9223372036854775808)) := pB h10
  rcases Bool.eq_false_or_eq_true (decide ((((a.natAbs : Int) % 18446744073709551616) * m % 18446744073709551616) > 0)) with h11 | h11
  ·have h11p : (((((a.natAbs : Int) % 18446744073709551616) * m % 18446744073709551616) > 0)) := pB h11
   refine aw_p 2045 (
    .a 2 3 <|
    .p (qJ ((((a.natAbs : Int) / 18446744073709551616) * m / 18446744073709551616) + (((((a.natAbs : Int) / 18446744073709551616) * m % 18446744073709551616) + (((a.natAbs : Int) % 18446744073709551616) * m / 18446744073709551616) + 0) / 18446744073709551616)) (wrap_u64 oO oO) .u64) <|
    .p (qN false (h8)) <| .a 2 3 <| .p (qN false (h9)) <| .a 3 3 <| .p (qN true (h10)) <| .a 2 3 <| .p (qN true (h11)) <| .e 6 3) ?_
   exact qR 4090<|aw_e 8181 3 3<|qF<|qB [.agg #[.int .i64 0, .int .u64 0], .int .i64 2] (show (.tuple #[.agg #[.int .i64 0, .int .u64 0], .int .i64 2] : Value) = (.tuple #[.agg #[.int .i64 (Sp.wh (Sp.tm (a * n))), .int .u64 (Sp.wl (Sp.tm (a * n)))], .int .i64 (Sp.tmE (a * n))]) from (congrArg (fun z : List Value => Value.tuple z.toArray) (jB (congrArg (fun z : List Value => Value.agg z.toArray) (jB (congrArg (Value.int .i64) (show 0 = (Sp.wh (Sp.tm (a * n))) from by (first | (rw [(Sp.jF (x := a * n) oO).1]; decide) | (rw [(Sp.jF (x := a * n) oO).2]) | (rw [(Sp.qU (x := a * n) oO).1]; congr 1; omega) | (rw [(Sp.qU (x := a * n) oO).2])))) (jB (congrArg (Value.int .u64) (show 0 = (Sp.wl (Sp.tm (a * n))) from by (first | (rw [(Sp.jF (x := a * n) oO).1]; decide) | (rw [(Sp.jF (x := a * n) oO).2]) | (rw [(Sp.qU (x := a * n) oO).1]; congr 1; omega) | (rw [(Sp.qU (x := a * n) oO).2])))) rfl))) (jB (congrArg (Value.int .i64) (show 2 = (Sp.tmE (a * n)) from by (first | (rw [(Sp.jF (x := a * n) oO).1]; decide) | (rw [(Sp.jF (x := a * n) oO).2]) | (rw [(Sp.qU (x := a * n) oO).1]; congr 1; omega) | (rw [(Sp.qU (x := a * n) oO).2])))) rfl))))
  have h11p : ¬ (((((a.natAbs : Int) % 18446744073709551616) * m % 18446744073709551616) > 0)) := pB h11
  refine aw_p 2045 (
   .a 2 3 <|
   .p (qJ ((((a.natAbs : Int) / 18446744073709551616) * m / 18446744073709551616) + (((((a.natAbs : Int) / 18446744073709551616) * m % 18446744073709551616) + (((a.natAbs : Int) % 18446744073709551616) * m / 18446744073709551616) + 0) / 18446744073709551616)) (wrap_u64 oO oO) .u64) <|
   .p (qN false (h8)) <| .a 2 3 <| .p (qN false (h9)) <| .a 3 3 <| .p (qN true (h10)) <| .a 2 3 <| .p (qN false (h11)) <| .a 2 3 <| .p (qN ((decide (a < 0)) == (decide (n < 0))) (Bool.not_not _)) <| .e 3 3) ?_
  refine qY 4090 4091 ((decide (a < 0)) == (decide (n < 0))) (fun h12 => ?_) (fun h12 => ?_)
  ·have h12p : ((((a < 0)) ↔ ((n < 0)))) := pB h12
   exact aw_e 8181 3 3<|qF<|qB [.agg #[.int .i64 0, .int .u64 0], .int .i64 2] (show (.tuple #[.agg #[.int .i64 0, .int .u64 0], .int .i64 2] : Value) = (.tuple #[.agg #[.int .i64 (Sp.wh (Sp.tm (a * n))), .int .u64 (Sp.wl (Sp.tm (a * n)))], .int .i64 (Sp.tmE (a * n))]) from (congrArg (fun z : List Value => Value.tuple z.toArray) (jB (congrArg (fun z : List Value => Value.agg z.toArray) (jB (congrArg (Value.int .i64) (show 0 = (Sp.wh (Sp.tm (a * n))) from by (first | (rw [(Sp.jF (x := a * n) oO).1]; decide) | (rw [(Sp.jF (x := a * n) oO).2]) | (rw [(Sp.qU (x := a * n) oO).1]; congr 1; omega) | (rw [(Sp.qU (x := a * n) oO).2])))) (jB (congrArg (Value.int .u64) (show 0 = (Sp.wl (Sp.tm (a * n))) from by (first | (rw [(Sp.jF (x := a * n) oO).1]; decide) | (rw [(Sp.jF (x := a * n) oO).2]) | (rw [(Sp.qU (x := a * n) oO).1]; congr 1; omega) | (rw [(Sp.qU (x := a * n) oO).2])))) rfl))) (jB (congrArg (Value.int .i64) (show 2 = (Sp.tmE (a * n)) from by (first | (rw [(Sp.jF (x := a * n) oO).1]; decide) | (rw [(Sp.jF (x := a * n) oO).2]) | (rw [(Sp.qU (x := a * n) oO).1]; congr 1; omega) | (rw [(Sp.qU (x := a * n) oO).2])))) rfl))))
  have h12p : ¬ ((((a < 0)) ↔ ((n < 0)))) := pB h12
  refine qH<|aw_p 2047 (
   .a 1 3 <|
   .p (qJ (Sp.wh ((a.natAbs : Int) / 18446744073709551616 * m * 18446744073709551616 + (a.natAbs : Int) % 18446744073709551616 * m)) ((show (IntKind.wrap .i64 (((((a.natAbs : Int) / 18446744073709551616) * m % 18446744073709551616) + (((a.natAbs : Int) % 18446744073709551616) * m / 18446744073709551616) + 0) % 18446744073709551616)) = (Sp.wh ((a.natAbs : Int) / 18446744073709551616 * m * 18446744073709551616 + (a.natAbs : Int) % 18446744073709551616 * m)) from z33)) .i64) <|
   .p (qJ (Sp.wl ((a.natAbs : Int) / 18446744073709551616 * m * 18446744073709551616 + (a.natAbs : Int) % 18446744073709551616 * m)) ((show (((a.natAbs : Int) % 18446744073709551616) * m % 18446744073709551616) = (Sp.wl ((a.natAbs : Int) / 18446744073709551616 * m * 18446744073709551616 + (a.natAbs : Int) % 18446744073709551616 * m)) from (by simp only [Sp.wl]; omega))) .u64) <|
   .e 3 3) ?_
  refine qD 4094 4095<|aw_p 8189 (
   .p (qN true (not_f h12)) <| .nil _ _) ?_
  refine qR 16378<|qW (
   .a 1 4 <| .p (qC (dW ((a.natAbs : Int) / 18446744073709551616 * m * 18446744073709551616 + (a.natAbs : Int) % 18446744073709551616 * m))) <| .e 1 4) ?_
  exact aw_e 8191 3 4<|qF<|qB [.agg #[.int .i64 (Sp.wh (-((a.natAbs : Int) / 18446744073709551616 * m * 18446744073709551616 + (a.natAbs : Int) % 18446744073709551616 * m))), .int .u64 (Sp.wl (-((a.natAbs : Int) / 18446744073709551616 * m * 18446744073709551616 + (a.natAbs : Int) % 18446744073709551616 * m)))], .int .i64 0] (show (.tuple #[.agg #[.int .i64 (Sp.wh (-((a.natAbs : Int) / 18446744073709551616 * m * 18446744073709551616 + (a.natAbs : Int) % 18446744073709551616 * m))), .int .u64 (Sp.wl (-((a.natAbs : Int) / 18446744073709551616 * m * 18446744073709551616 + (a.natAbs : Int) % 18446744073709551616 * m)))], .int .i64 0] : Value) = (.tuple #[.agg #[.int .i64 (Sp.wh (Sp.tm (a * n))), .int .u64 (Sp.wl (Sp.tm (a * n)))], .int .i64 (Sp.tmE (a * n))]) from (congrArg (fun z : List Value => Value.tuple z.toArray) (jB (congrArg (fun z : List Value => Value.agg z.toArray) (jB (congrArg (Value.int .i64) (show (Sp.wh (-((a.natAbs : Int) / 18446744073709551616 * m * 18446744073709551616 + (a.natAbs : Int) % 18446744073709551616 * m))) = (Sp.wh (Sp.tm (a * n))) from by (first | (rw [(Sp.jF (x := a * n) oO).1]; decide) | (rw [(Sp.jF (x := a * n) oO).2]) | (rw [(Sp.qU (x := a * n) oO).1]; congr 1; omega) | (rw [(Sp.qU (x := a * n) oO).2])))) (jB (congrArg (Value.int .u64) (show (Sp.wl (-((a.natAbs : Int) / 18446744073709551616 * m * 18446744073709551616 + (a.natAbs : Int) % 18446744073709551616 * m))) = (Sp.wl (Sp.tm (a * n))) from by (first | (rw [(Sp.jF (x := a * n) oO).1]; decide) | (rw [(Sp.jF (x := a * n) oO).2]) | (rw [(Sp.qU (x := a * n) oO).1]; congr 1; omega) | (rw [(Sp.qU (x := a * n) oO).2])))) rfl))) (jB (congrArg (Value.int .i64) (show 0 = (Sp.tmE (a * n)) from by (first | (rw [(Sp.jF (x := a * n) oO).1]; decide) | (rw [(Sp.jF (x := a * n) oO).2]) | (rw [(Sp.qU (x := a * n) oO).1]; congr 1; omega) | (rw [(Sp.qU (x := a * n) oO).2])))) rfl))))
 have h10p : ¬ (((((((a.natAbs : Int) / 18446744073709551616) * m % 18446744073709551616) + (((a.natAbs : Int) % 18446744073709551616) * m / 18446744073709551616) + 0) % 18446744073709551616) = 9223372036854775808)) := pB h10
 refine aw_p 2045 (
  .a 2 3 <|
  .p (qJ ((((a.natAbs : Int) / 18446744073709551616) * m / 18446744073709551616) + (((((a.natAbs : Int) / 18446744073709551616) * m % 18446744073709551616) + (((a.natAbs : Int) % 18446744073709551616) * m / 18446744073709551616) + 0) / 18446744073709551616)) (wrap_u64 oO oO) .u64) <|
  .p (qN false (h8)) <| .a 2 3 <| .p (qN false (h9)) <| .a 3 3 <| .p (qN false (h10)) <| .e 9 3) ?_
 refine qP 4091<|qH<|aw_p 2047 (
  .a 1 3 <|
  .p (qJ (Sp.wh ((a.natAbs : Int) / 18446744073709551616 * m * 18446744073709551616 + (a.natAbs : Int) % 18446744073709551616 * m)) ((show (IntKind.wrap .i64 (((((a.natAbs : Int) / 18446744073709551616) * m % 18446744073709551616) + (((a.natAbs : Int) % 18446744073709551616) * m / 18446744073709551616) + 0) % 18446744073709551616)) = (Sp.wh ((a.natAbs : Int) / 18446744073709551616 * m * 18446744073709551616 + (a.natAbs : Int) % 18446744073709551616 * m)) from z33)) .i64) <|
  .p (qJ (Sp.wl ((a.natAbs : Int) / 18446744073709551616 * m * 18446744073709551616 + (a.natAbs : Int) % 18446744073709551616 * m)) ((show (((a.natAbs : Int) % 18446744073709551616) * m % 18446744073709551616) = (Sp.wl ((a.natAbs : Int) / 18446744073709551616 * m * 18446744073709551616 + (a.natAbs : Int) % 18446744073709551616 * m)) from (by simp only [Sp.wl]; omega))) .u64) <|
  .e 3 3) ?_
 refine qD 4094 4095<|aw_e 8189 1 4<|qY 16378 16379 (!((decide (a < 0)) == (decide (n < 0)))) (fun h13 => ?_) (fun h13 => ?_)
 ·have h13p : (¬ ((((a < 0)) ↔ ((n < 0))))) := pB h13
  refine qW (
   .a 1 4 <| .p (qC (dW ((a.natAbs : Int) / 18446744073709551616 * m * 18446744073709551616 + (a.natAbs : Int) % 18446744073709551616 * m))) <| .e 1 4) ?_
  exact aw_e 8191 3 4<|qF<|qB [.agg #[.int .i64 (Sp.wh (-((a.natAbs : Int) / 18446744073709551616 * m * 18446744073709551616 + (a.natAbs : Int) % 18446744073709551616 * m))), .int .u64 (Sp.wl (-((a.natAbs : Int) / 18446744073709551616 * m * 18446744073709551616 + (a.natAbs : Int) % 18446744073709551616 * m)))], .int .i64 0] (show (.tuple #[.agg #[.int .i64 (Sp.wh (-((a.natAbs : Int) / 18446744073709551616 * m * 18446744073709551616 + (a.natAbs : Int) % 18446744073709551616 * m))), .int .u64 (Sp.wl (-((a.natAbs : Int) / 18446744073709551616 * m * 18446744073709551616 + (a.natAbs : Int) % 18446744073709551616 * m)))], .int .i64 0] : Value) = (.tuple #[.agg #[.int .i64 (Sp.wh (Sp.tm (a * n))), .int .u64 (Sp.wl (Sp.tm (a * n)))], .int .i64 (Sp.tmE (a * n))]) from (congrArg (fun z : List Value => Value.tuple z.toArray) (jB (congrArg (fun z : List Value => Value.agg z.toArray) (jB (congrArg (Value.int .i64) (show (Sp.wh (-((a.natAbs : Int) / 18446744073709551616 * m * 18446744073709551616 + (a.natAbs : Int) % 18446744073709551616 * m))) = (Sp.wh (Sp.tm (a * n))) from by (first | (rw [(Sp.jF (x := a * n) oO).1]; decide) | (rw [(Sp.jF (x := a * n) oO).2]) | (rw [(Sp.qU (x := a * n) oO).1]; congr 1; omega) | (rw [(Sp.qU (x := a * n) oO).2])))) (jB (congrArg (Value.int .u64) (show (Sp.wl (-((a.natAbs : Int) / 18446744073709551616 * m * 18446744073709551616 + (a.natAbs : Int) % 18446744073709551616 * m))) = (Sp.wl (Sp.tm (a * n))) from by (first | (rw [(Sp.jF (x := a * n) oO).1]; decide) | (rw [(Sp.jF (x := a * n) oO).2]) | (rw [(Sp.qU (x := a * n) oO).1]; congr 1; omega) | (rw [(Sp.qU (x := a * n) oO).2])))) rfl))) (jB (congrArg (Value.int .i64) (show 0 = (Sp.tmE (a * n)) from by (first | (rw [(Sp.jF (x := a * n) oO).1]; decide) | (rw [(Sp.jF (x := a * n) oO).2]) | (rw [(Sp.qU (x := a * n) oO).1]; congr 1; omega) | (rw [(Sp.qU (x := a * n) oO).2])))) rfl))))
 have h13p : ¬ (¬ ((((a < 0)) ↔ ((n < 0))))) := pB h13
 exact qH<|aw_e 8191 3 4<|qF<|qB [.agg #[.int .i64 (Sp.wh ((a.natAbs : Int) / 18446744073709551616 * m * 18446744073709551616 + (a.natAbs : Int) % 18446744073709551616 * m)), .int .u64 (Sp.wl ((a.natAbs : Int) / 18446744073709551616 * m * 18446744073709551616 + (a.natAbs : Int) % 18446744073709551616 * m))], .int .i64 0] (show (.tuple #[.agg #[.int .i64 (Sp.wh ((a.natAbs : Int) / 18446744073709551616 * m * 18446744073709551616 + (a.natAbs : Int) % 18446744073709551616 * m)), .int .u64 (Sp.wl ((a.natAbs : Int) / 18446744073709551616 * m * 18446744073709551616 + (a.natAbs : Int) % 18446744073709551616 * m))], .int .i64 0] : Value) = (.tuple #[.agg #[.int .i64 (Sp.wh (Sp.tm (a * n))), .int .u64 (Sp.wl (Sp.tm (a * n)))], .int .i64 (Sp.tmE (a * n))]) from (congrArg (fun z : List Value => Value.tuple z.toArray) (jB (congrArg (fun z : List Value => Value.agg z.toArray) (jB (congrArg (Value.int .i64) (show (Sp.wh ((a.natAbs : Int) / 18446744073709551616 * m * 18446744073709551616 + (a.natAbs : Int) % 18446744073709551616 * m)) = (Sp.wh (Sp.tm (a * n))) from by (first | (rw [(Sp.jF (x := a * n) oO).1]; decide) | (rw [(Sp.jF (x := a * n) oO).2]) | (rw [(Sp.qU (x := a * n) oO).1]; congr 1; omega) | (rw [(Sp.qU (x := a * n) oO).2])))) (jB (congrArg (Value.int .u64) (show (Sp.wl ((a.natAbs : Int) / 18446744073709551616 * m * 18446744073709551616 + (a.natAbs : Int) % 18446744073709551616 * m)) = (Sp.wl (Sp.tm (a * n))) from by (first | (rw [(Sp.jF (x := a * n) oO).1]; decide) | (rw [(Sp.jF (x := a * n) oO).2]) | (rw [(Sp.qU (x := a * n) oO).1]; congr 1; omega) | (rw [(Sp.qU (x := a * n) oO).2])))) rfl))) (jB (congrArg (Value.int .i64) (show 0 = (Sp.tmE (a * n)) from by (first | (rw [(Sp.jF (x := a * n) oO).1]; decide) | (rw [(Sp.jF (x := a * n) oO).2]) | (rw [(Sp.qU (x := a * n) oO).1]; congr 1; omega) | (rw [(Sp.qU (x := a * n) oO).2])))) rfl))))
open Go Go.Proofs
theorem rD (px py ax ay bx b_y : Int) :
    AC Try.prog 94 0 ([.agg #[.int .i64 px, .int .i64 py], .agg #[.int .i64 ax, .int .i64 ay], .agg #[.int .i64 bx, .int .i64 b_y]]) [] (.tuple #[.agg #[.int .i64 (Sp.wh (Sp.sqn (Sp.lim 1048576 px) (Sp.lim 1048576 py) (Sp.lim 1048576 ax) (Sp.lim 1048576 ay) (Sp.lim 1048576 bx) (Sp.lim 1048576 b_y))), .int .u64 (Sp.wl (Sp.sqn (Sp.lim 1048576 px) (Sp.lim 1048576 py) (Sp.lim 1048576 ax) (Sp.lim 1048576 ay) (Sp.lim 1048576 bx) (Sp.lim 1048576 b_y)))], .int .i64 (Sp.sqd (Sp.lim 1048576 px) (Sp.lim 1048576 py) (Sp.lim 1048576 ax) (Sp.lim 1048576 ay) (Sp.lim 1048576 bx) (Sp.lim 1048576 b_y))]) [] := by
 have qpx := Sp.jP (m := 1048576) dD px; have qpy := Sp.jP (m := 1048576) dD py; have qax := Sp.jP (m := 1048576) dD ax; have qay := Sp.jP (m := 1048576) dD ay; have qbx := Sp.jP (m := 1048576) dD bx; have qb_y := Sp.jP (m := 1048576) dD b_y; have kb := Sp.qBK (ax := (Sp.lim 1048576 ax)) (ay := (Sp.lim 1048576 ay)) (bx := (Sp.lim 1048576 bx)) (b_y := (Sp.lim 1048576 b_y)) (cx := (Sp.lim 1048576 px)) (cy := (Sp.lim 1048576 py)) (M := 1048576) dD ⟨by omega, by omega, by omega, by omega, by omega, by omega⟩; have kb1 := Sp.qBK (ax := (Sp.lim 1048576 ax)) (ay := (Sp.lim 1048576 ay)) (bx := (Sp.lim 1048576 px)) (b_y := (Sp.lim 1048576 py)) (cx := (Sp.lim 1048576 px)) (cy := (Sp.lim 1048576 py)) (M := 1048576) dD ⟨by omega, by omega, by omega, by omega, by omega, by omega⟩; have kb2 := Sp.qBK (ax := (Sp.lim 1048576 bx)) (ay := (Sp.lim 1048576 b_y)) (bx := (Sp.lim 1048576 px)) (b_y := (Sp.lim 1048576 py)) (cx := (Sp.lim 1048576 px)) (cy := (Sp.lim 1048576 py)) (M := 1048576) dD ⟨by omega, by omega, by omega, by omega, by omega, by omega⟩; have kb3 := Sp.qBK (ax := (Sp.lim 1048576 ax)) (ay := (Sp.lim 1048576 ay)) (bx := (Sp.lim 1048576 bx)) (b_y := (Sp.lim 1048576 b_y)) (cx := (Sp.lim 1048576 bx)) (cy := (Sp.lim 1048576 b_y)) (M := 1048576) dD ⟨by omega, by omega, by omega, by omega, by omega, by omega⟩; have sc := Sp.sq_cases (Sp.lim 1048576 px) (Sp.lim 1048576 py) (Sp.lim 1048576 ax) (Sp.lim 1048576 ay) (Sp.lim 1048576 bx) (Sp.lim 1048576 b_y)
 refine qK Try.func94 (fun w0 W pin => ?_)
 refine aw_e 3 5 1<|aw_d 7 (
  .a 2 5 <| .p (qC (sq_ok ax ay bx b_y)) <| .a 3 5 <| .p (qC (dot_ok ax ay bx b_y px py)) <| .e 2 5) ?_
 refine qD 14 15<|qM 0 29<|aw_e 59 3 5<|qY 118 119 (decide ((Sp.dot (Sp.lim 1048576 ax) (Sp.lim 1048576 ay) (Sp.lim 1048576 bx) (Sp.lim 1048576 b_y) (Sp.lim 1048576 px) (Sp.lim 1048576 py)) ≤ 0)) (fun h1 => ?_) (fun h1 => ?_)
 ·have h1p : (((Sp.dot (Sp.lim 1048576 ax) (Sp.lim 1048576 ay) (Sp.lim 1048576 bx) (Sp.lim 1048576 b_y) (Sp.lim 1048576 px) (Sp.lim 1048576 py)) ≤ 0)) := pB h1
  refine aw_p 237 (
   .a 2 5 <| .p (qC (sq_ok ax ay px py)) <| .p (qC (wof_ok (Sp.dot (Sp.lim 1048576 ax) (Sp.lim 1048576 ay) (Sp.lim 1048576 px) (Sp.lim 1048576 py) (Sp.lim 1048576 px) (Sp.lim 1048576 py)) oO oO)) <| .e 2 5) ?_
  exact qF<|qB [.agg #[.int .i64 (Sp.wh (Sp.dot (Sp.lim 1048576 ax) (Sp.lim 1048576 ay) (Sp.lim 1048576 px) (Sp.lim 1048576 py) (Sp.lim 1048576 px) (Sp.lim 1048576 py))), .int .u64 (Sp.wl (Sp.dot (Sp.lim 1048576 ax) (Sp.lim 1048576 ay) (Sp.lim 1048576 px) (Sp.lim 1048576 py) (Sp.lim 1048576 px) (Sp.lim 1048576 py)))], .int .i64 1] (show (.tuple #[.agg #[.int .i64 (Sp.wh (Sp.dot (Sp.lim 1048576 ax) (Sp.lim 1048576 ay) (Sp.lim 1048576 px) (Sp.lim 1048576 py) (Sp.lim 1048576 px) (Sp.lim 1048576 py))), .int .u64 (Sp.wl (Sp.dot (Sp.lim 1048576 ax) (Sp.lim 1048576 ay) (Sp.lim 1048576 px) (Sp.lim 1048576 py) (Sp.lim 1048576 px) (Sp.lim 1048576 py)))], .int .i64 1] : Value) = (.tuple #[.agg #[.int .i64 (Sp.wh (Sp.sqn (Sp.lim 1048576 px) (Sp.lim 1048576 py) (Sp.lim 1048576 ax) (Sp.lim 1048576 ay) (Sp.lim 1048576 bx) (Sp.lim 1048576 b_y))), .int .u64 (Sp.wl (Sp.sqn (Sp.lim 1048576 px) (Sp.lim 1048576 py) (Sp.lim 1048576 ax) (Sp.lim 1048576 ay) (Sp.lim 1048576 bx) (Sp.lim 1048576 b_y)))], .int .i64 (Sp.sqd (Sp.lim 1048576 px) (Sp.lim 1048576 py) (Sp.lim 1048576 ax) (Sp.lim 1048576 ay) (Sp.lim 1048576 bx) (Sp.lim 1048576 b_y))]) from (congrArg (fun z : List Value => Value.tuple z.toArray) (jB (congrArg (fun z : List Value => Value.agg z.toArray) (jB (congrArg (Value.int .i64) (show (Sp.wh (Sp.dot (Sp.lim 1048576 ax) (Sp.lim 1048576 ay) (Sp.lim 1048576 px) (Sp.lim 1048576 py) (Sp.lim 1048576 px) (Sp.lim 1048576 py))) = (Sp.wh (Sp.sqn (Sp.lim 1048576 px) (Sp.lim 1048576 py) (Sp.lim 1048576 ax) (Sp.lim 1048576 ay) (Sp.lim 1048576 bx) (Sp.lim 1048576 b_y))) from by (first | (rw [← (sc.1 oO).1]; first | done | rfl | decide) | (rw [← (sc.1 oO).2]; first | done | rfl | decide) | (rw [← (sc.2.1 oO oO).1]; first | done | rfl | decide) | (rw [← (sc.2.1 oO oO).2]; first | done | rfl | decide) | (rw [← (sc.2.2 oO oO).1]; first | done | rfl | decide) | (rw [← (sc.2.2 oO oO).2]; first | done | rfl | decide)))) (jB (congrArg (Value.int .u64) (show (Sp.wl (Sp.dot (Sp.lim 1048576 ax) (Sp.lim 1048576 ay) (Sp.lim 1048576 px) (Sp.lim 1048576 py) (Sp.lim 1048576 px) (Sp.lim 1048576 py))) = (Sp.wl (Sp.sqn (Sp.lim 1048576 px) (Sp.lim 1048576 py) (Sp.lim 1048576 ax) (Sp.lim 1048576 ay) (Sp.lim 1048576 bx) (Sp.lim 1048576 b_y))) from by (first | (rw [← (sc.1 oO).1]; first | done | rfl | decide) | (rw [← (sc.1 oO).2]; first | done | rfl | decide) | (rw [← (sc.2.1 oO oO).1]; first | done | rfl | decide) | (rw [← (sc.2.1 oO oO).2]; first | done | rfl | decide) | (rw [← (sc.2.2 oO oO).1]; first | done | rfl | decide) | (rw [← (sc.2.2 oO oO).2]; first | done | rfl | decide)))) rfl))) (jB (congrArg (Value.int .i64) (show 1 = (Sp.sqd (Sp.lim 1048576 px) (Sp.lim 1048576 py) (Sp.lim 1048576 ax) (Sp.lim 1048576 ay) (Sp.lim 1048576 bx) (Sp.lim 1048576 b_y)) from by (first | (rw [← (sc.1 oO).1]; first | done | rfl | decide) | (rw [← (sc.1 oO).2]; first | done | rfl | decide) | (rw [← (sc.2.1 oO oO).1]; first | done | rfl | decide) | (rw [← (sc.2.1 oO oO).2]; first | done | rfl | decide) | (rw [← (sc.2.2 oO oO).1]; first | done | rfl | decide) | (rw [← (sc.2.2 oO oO).2]; first | done | rfl | decide)))) rfl))))
 have h1p : ¬ (((Sp.dot (Sp.lim 1048576 ax) (Sp.lim 1048576 ay) (Sp.lim 1048576 bx) (Sp.lim 1048576 b_y) (Sp.lim 1048576 px) (Sp.lim 1048576 py)) ≤ 0)) := pB h1
 refine aw_e 239 4 5<|qY 478 479 (decide ((Sp.dot (Sp.lim 1048576 ax) (Sp.lim 1048576 ay) (Sp.lim 1048576 bx) (Sp.lim 1048576 b_y) (Sp.lim 1048576 px) (Sp.lim 1048576 py)) ≥ (Sp.dot (Sp.lim 1048576 ax) (Sp.lim 1048576 ay) (Sp.lim 1048576 bx) (Sp.lim 1048576 b_y) (Sp.lim 1048576 bx) (Sp.lim 1048576 b_y)))) (fun h2 => ?_) (fun h2 => ?_)
 ·have h2p : (((Sp.dot (Sp.lim 1048576 ax) (Sp.lim 1048576 ay) (Sp.lim 1048576 bx) (Sp.lim 1048576 b_y) (Sp.lim 1048576 px) (Sp.lim 1048576 py)) ≥ (Sp.dot (Sp.lim 1048576 ax) (Sp.lim 1048576 ay) (Sp.lim 1048576 bx) (Sp.lim 1048576 b_y) (Sp.lim 1048576 bx) (Sp.lim 1048576 b_y)))) := pB h2
  refine aw_p 957 (
   .a 2 5 <| .p (qC (sq_ok bx b_y px py)) <| .p (qC (wof_ok (Sp.dot (Sp.lim 1048576 bx) (Sp.lim 1048576 b_y) (Sp.lim 1048576 px) (Sp.lim 1048576 py) (Sp.lim 1048576 px) (Sp.lim 1048576 py)) oO oO)) <| .e 2 5) ?_
  exact qF<|qB [.agg #[.int .i64 (Sp.wh (Sp.dot (Sp.lim 1048576 bx) (Sp.lim 1048576 b_y) (Sp.lim 1048576 px) (Sp.lim 1048576 py) (Sp.lim 1048576 px) (Sp.lim 1048576 py))), .int .u64 (Sp.wl (Sp.dot (Sp.lim 1048576 bx) (Sp.lim 1048576 b_y) (Sp.lim 1048576 px) (Sp.lim 1048576 py) (Sp.lim 1048576 px) (Sp.lim 1048576 py)))], .int .i64 1] (show (.tuple #[.agg #[.int .i64 (Sp.wh (Sp.dot (Sp.lim 1048576 bx) (Sp.lim 1048576 b_y) (Sp.lim 1048576 px) (Sp.lim 1048576 py) (Sp.lim 1048576 px) (Sp.lim 1048576 py))), .int .u64 (Sp.wl (Sp.dot (Sp.lim 1048576 bx) (Sp.lim 1048576 b_y) (Sp.lim 1048576 px) (Sp.lim 1048576 py) (Sp.lim 1048576 px) (Sp.lim 1048576 py)))], .int .i64 1] : Value) = (.tuple #[.agg #[.int .i64 (Sp.wh (Sp.sqn (Sp.lim 1048576 px) (Sp.lim 1048576 py) (Sp.lim 1048576 ax) (Sp.lim 1048576 ay) (Sp.lim 1048576 bx) (Sp.lim 1048576 b_y))), .int .u64 (Sp.wl (Sp.sqn (Sp.lim 1048576 px) (Sp.lim 1048576 py) (Sp.lim 1048576 ax) (Sp.lim 1048576 ay) (Sp.lim 1048576 bx) (Sp.lim 1048576 b_y)))], .int .i64 (Sp.sqd (Sp.lim 1048576 px) (Sp.lim 1048576 py) (Sp.lim 1048576 ax) (Sp.lim 1048576 ay) (Sp.lim 1048576 bx) (Sp.lim 1048576 b_y))]) from (congrArg (fun z : List Value => Value.tuple z.toArray) (jB (congrArg (fun z : List Value => Value.agg z.toArray) (jB (congrArg (Value.int .i64) (show (Sp.wh (Sp.dot (Sp.lim 1048576 bx) (Sp.lim 1048576 b_y) (Sp.lim 1048576 px) (Sp.lim 1048576 py) (Sp.lim 1048576 px) (Sp.lim 1048576 py))) = (Sp.wh (Sp.sqn (Sp.lim 1048576 px) (Sp.lim 1048576 py) (Sp.lim 1048576 ax) (Sp.lim 1048576 ay) (Sp.lim 1048576 bx) (Sp.lim 1048576 b_y))) from by (first | (rw [← (sc.1 oO).1]; first | done | rfl | decide) | (rw [← (sc.1 oO).2]; first | done | rfl | decide) | (rw [← (sc.2.1 oO oO).1]; first | done | rfl | decide) | (rw [← (sc.2.1 oO oO).2]; first | done | rfl | decide) | (rw [← (sc.2.2 oO oO).1]; first | done | rfl | decide) | (rw [← (sc.2.2 oO oO).2]; first | done | rfl | decide)))) (jB (congrArg (Value.int .u64) (show (Sp.wl (Sp.dot (Sp.lim 1048576 bx) (Sp.lim 1048576 b_y) (Sp.lim 1048576 px) (Sp.lim 1048576 py) (Sp.lim 1048576 px) (Sp.lim 1048576 py))) = (Sp.wl (Sp.sqn (Sp.lim 1048576 px) (Sp.lim 1048576 py) (Sp.lim 1048576 ax) (Sp.lim 1048576 ay) (Sp.lim 1048576 bx) (Sp.lim 1048576 b_y))) from by (first | (rw [← (sc.1 oO).1]; first | done | rfl | decide) | (rw [← (sc.1 oO).2]; first | done | rfl | decide) | (rw [← (sc.2.1 oO oO).1]; first | done | rfl | decide) | (rw [← (sc.2.1 oO oO).2]; first | done | rfl | decide) | (rw [← (sc.2.2 oO oO).1]; first | done | rfl | decide) | (rw [← (sc.2.2 oO oO).2]; first | done | rfl | decide)))) rfl))) (jB (congrArg (Value.int .i64) (show 1 = (Sp.sqd (Sp.lim 1048576 px) (Sp.lim 1048576 py) (Sp.lim 1048576 ax) (Sp.lim 1048576 ay) (Sp.lim 1048576 bx) (Sp.lim 1048576 b_y)) from by (first | (rw [← (sc.1 oO).1]; first | done | rfl | decide) | (rw [← (sc.1 oO).2]; first | done | rfl | decide) | (rw [← (sc.2.1 oO oO).1]; first | done | rfl | decide) | (rw [← (sc.2.1 oO oO).2]; first | done | rfl | decide) | (rw [← (sc.2.2 oO oO).1]; first | done | rfl | decide) | (rw [← (sc.2.2 oO oO).2]; first | done | rfl | decide)))) rfl))))
 have h2p : ¬ (((Sp.dot (Sp.lim 1048576 ax) (Sp.lim 1048576 ay) (Sp.lim 1048576 bx) (Sp.lim 1048576 b_y) (Sp.lim 1048576 px) (Sp.lim 1048576 py)) ≥ (Sp.dot (Sp.lim 1048576 ax) (Sp.lim 1048576 ay) (Sp.lim 1048576 bx) (Sp.lim 1048576 b_y) (Sp.lim 1048576 bx) (Sp.lim 1048576 b_y)))) := pB h2
 refine qH<|aw_p 31 (
  .a 3 5 <| .p (qC (qBL ax ay bx b_y px py)) <| .e 1 5) ?_
 refine aw_p 63 (
  .a 2 5 <|
  .p (qC (wmul_ok (Sp.crs (Sp.lim 1048576 ax) (Sp.lim 1048576 ay) (Sp.lim 1048576 bx) (Sp.lim 1048576 b_y) (Sp.lim 1048576 px) (Sp.lim 1048576 py)) (Sp.crs (Sp.lim 1048576 ax) (Sp.lim 1048576 ay) (Sp.lim 1048576 bx) (Sp.lim 1048576 b_y) (Sp.lim 1048576 px) (Sp.lim 1048576 py)) oO oO oO oO)) <|
  .e 3 5) ?_
 exact qF<|qB [.agg #[.int .i64 (Sp.wh ((Sp.crs (Sp.lim 1048576 ax) (Sp.lim 1048576 ay) (Sp.lim 1048576 bx) (Sp.lim 1048576 b_y) (Sp.lim 1048576 px) (Sp.lim 1048576 py)) * (Sp.crs (Sp.lim 1048576 ax) (Sp.lim 1048576 ay) (Sp.lim 1048576 bx) (Sp.lim 1048576 b_y) (Sp.lim 1048576 px) (Sp.lim 1048576 py)))), .int .u64 (Sp.wl ((Sp.crs (Sp.lim 1048576 ax) (Sp.lim 1048576 ay) (Sp.lim 1048576 bx) (Sp.lim 1048576 b_y) (Sp.lim 1048576 px) (Sp.lim 1048576 py)) * (Sp.crs (Sp.lim 1048576 ax) (Sp.lim 1048576 ay) (Sp.lim 1048576 bx) (Sp.lim 1048576 b_y) (Sp.lim 1048576 px) (Sp.lim 1048576 py))))], .int .i64 (Sp.dot (Sp.lim 1048576 ax) (Sp.lim 1048576 ay) (Sp.lim 1048576 bx) (Sp.lim 1048576 b_y) (Sp.lim 1048576 bx) (Sp.lim 1048576 b_y))] (show (.tuple #[.agg #[.int .i64 (Sp.wh ((Sp.crs (Sp.lim 1048576 ax) (Sp.lim 1048576 ay) (Sp.lim 1048576 bx) (Sp.lim 1048576 b_y) (Sp.lim 1048576 px) (Sp.lim 1048576 py)) * (Sp.crs (Sp.lim 1048576 ax) (Sp.lim 1048576 ay) (Sp.lim 1048576 bx) (Sp.lim 1048576 b_y) (Sp.lim 1048576 px) (Sp.lim 1048576 py)))), .int .u64 (Sp.wl ((Sp.crs (Sp.lim 1048576 ax) (Sp.lim 1048576 ay) (Sp.lim 1048576 bx) (Sp.lim 1048576 b_y) (Sp.lim 1048576 px) (Sp.lim 1048576 py)) * (Sp.crs (Sp.lim 1048576 ax) (Sp.lim 1048576 ay) (Sp.lim 1048576 bx) (Sp.lim 1048576 b_y) (Sp.lim 1048576 px) (Sp.lim 1048576 py))))], .int .i64 (Sp.dot (Sp.lim 1048576 ax) (Sp.lim 1048576 ay) (Sp.lim 1048576 bx) (Sp.lim 1048576 b_y) (Sp.lim 1048576 bx) (Sp.lim 1048576 b_y))] : Value) = (.tuple #[.agg #[.int .i64 (Sp.wh (Sp.sqn (Sp.lim 1048576 px) (Sp.lim 1048576 py) (Sp.lim 1048576 ax) (Sp.lim 1048576 ay) (Sp.lim 1048576 bx) (Sp.lim 1048576 b_y))), .int .u64 (Sp.wl (Sp.sqn (Sp.lim 1048576 px) (Sp.lim 1048576 py) (Sp.lim 1048576 ax) (Sp.lim 1048576 ay) (Sp.lim 1048576 bx) (Sp.lim 1048576 b_y)))], .int .i64 (Sp.sqd (Sp.lim 1048576 px) (Sp.lim 1048576 py) (Sp.lim 1048576 ax) (Sp.lim 1048576 ay) (Sp.lim 1048576 bx) (Sp.lim 1048576 b_y))]) from (congrArg (fun z : List Value => Value.tuple z.toArray) (jB (congrArg (fun z : List Value => Value.agg z.toArray) (jB (congrArg (Value.int .i64) (show (Sp.wh ((Sp.crs (Sp.lim 1048576 ax) (Sp.lim 1048576 ay) (Sp.lim 1048576 bx) (Sp.lim 1048576 b_y) (Sp.lim 1048576 px) (Sp.lim 1048576 py)) * (Sp.crs (Sp.lim 1048576 ax) (Sp.lim 1048576 ay) (Sp.lim 1048576 bx) (Sp.lim 1048576 b_y) (Sp.lim 1048576 px) (Sp.lim 1048576 py)))) = (Sp.wh (Sp.sqn (Sp.lim 1048576 px) (Sp.lim 1048576 py) (Sp.lim 1048576 ax) (Sp.lim 1048576 ay) (Sp.lim 1048576 bx) (Sp.lim 1048576 b_y))) from by (first | (rw [← (sc.1 oO).1]; first | done | rfl | decide) | (rw [← (sc.1 oO).2]; first | done | rfl | decide) | (rw [← (sc.2.1 oO oO).1]; first | done | rfl | decide) | (rw [← (sc.2.1 oO oO).2]; first | done | rfl | decide) | (rw [← (sc.2.2 oO oO).1]; first | done | rfl | decide) | (rw [← (sc.2.2 oO oO).2]; first | done | rfl | decide)))) (jB (congrArg (Value.int .u64) (show (Sp.wl ((Sp.crs (Sp.lim 1048576 ax) (Sp.lim 1048576 ay) (Sp.lim 1048576 bx) (Sp.lim 1048576 b_y) (Sp.lim 1048576 px) (Sp.lim 1048576 py)) * (Sp.crs (Sp.lim 1048576 ax) (Sp.lim 1048576 ay) (Sp.lim 1048576 bx) (Sp.lim 1048576 b_y) (Sp.lim 1048576 px) (Sp.lim 1048576 py)))) = (Sp.wl (Sp.sqn (Sp.lim 1048576 px) (Sp.lim 1048576 py) (Sp.lim 1048576 ax) (Sp.lim 1048576 ay) (Sp.lim 1048576 bx) (Sp.lim 1048576 b_y))) from by (first | (rw [← (sc.1 oO).1]; first | done | rfl | decide) | (rw [← (sc.1 oO).2]; first | done | rfl | decide) | (rw [← (sc.2.1 oO oO).1]; first | done | rfl | decide) | (rw [← (sc.2.1 oO oO).2]; first | done | rfl | decide) | (rw [← (sc.2.2 oO oO).1]; first | done | rfl | decide) | (rw [← (sc.2.2 oO oO).2]; first | done | rfl | decide)))) rfl))) (jB (congrArg (Value.int .i64) (show (Sp.dot (Sp.lim 1048576 ax) (Sp.lim 1048576 ay) (Sp.lim 1048576 bx) (Sp.lim 1048576 b_y) (Sp.lim 1048576 bx) (Sp.lim 1048576 b_y)) = (Sp.sqd (Sp.lim 1048576 px) (Sp.lim 1048576 py) (Sp.lim 1048576 ax) (Sp.lim 1048576 ay) (Sp.lim 1048576 bx) (Sp.lim 1048576 b_y)) from by (first | (rw [← (sc.1 oO).1]; first | done | rfl | decide) | (rw [← (sc.1 oO).2]; first | done | rfl | decide) | (rw [← (sc.2.1 oO oO).1]; first | done | rfl | decide) | (rw [← (sc.2.1 oO oO).2]; first | done | rfl | decide) | (rw [← (sc.2.2 oO oO).1]; first | done | rfl | decide) | (rw [← (sc.2.2 oO oO).2]; first | done | rfl | decide)))) rfl))))
theorem qD9 (px py ax ay bx b_y by_ : Int) :
    AC Try.prog 51 0 ([.agg #[.int .i64 px, .int .i64 py], .agg #[.int .i64 ax, .int .i64 ay], .agg #[.int .i64 bx, .int .i64 b_y], .int .i64 by_]) [] (.bool (Sp.wthn (Sp.lim 1048576 px) (Sp.lim 1048576 py) (Sp.lim 1048576 ax) (Sp.lim 1048576 ay) (Sp.lim 1048576 bx) (Sp.lim 1048576 b_y) by_)) [] := by
 have qpx := Sp.jP (m := 1048576) dD px; have qpy := Sp.jP (m := 1048576) dD py; have qax := Sp.jP (m := 1048576) dD ax; have qay := Sp.jP (m := 1048576) dD ay; have qbx := Sp.jP (m := 1048576) dD bx; have qb_y := Sp.jP (m := 1048576) dD b_y; have sb := Sp.sq_bd (Sp.lim 1048576 px) (Sp.lim 1048576 py) (Sp.lim 1048576 ax) (Sp.lim 1048576 ay) (Sp.lim 1048576 bx) (Sp.lim 1048576 b_y) oO oO oO oO oO oO oO oO oO oO oO oO; have mb := Sp.mn_by by_; have mb2 := Sp.mn_sq by_ (Sp.sqd (Sp.lim 1048576 px) (Sp.lim 1048576 py) (Sp.lim 1048576 ax) (Sp.lim 1048576 ay) (Sp.lim 1048576 bx) (Sp.lim 1048576 b_y)) oO oO
 refine qK Try.func51 (fun w0 W pin => ?_)
 refine aw_e 3 4 1<|aw_e 7 3 4<|qD 14 15<|aw_e 29 2 4<|qY 58 59 (decide ((Sp.mn by_ 4194304) < 0)) (fun h1 => ?_) (fun h1 => ?_)
 ·have h1p : (((Sp.mn by_ 4194304) < 0)) := pB h1
  exact aw_e 117 1 4<|qF<|qB [.bool false] (show (.bool false : Value) = (.bool (Sp.wthn (Sp.lim 1048576 px) (Sp.lim 1048576 py) (Sp.lim 1048576 ax) (Sp.lim 1048576 ay) (Sp.lim 1048576 bx) (Sp.lim 1048576 b_y) by_)) from (congrArg Value.bool (show false = (Sp.wthn (Sp.lim 1048576 px) (Sp.lim 1048576 py) (Sp.lim 1048576 ax) (Sp.lim 1048576 ay) (Sp.lim 1048576 bx) (Sp.lim 1048576 b_y) by_) from by (first | exact (Sp.eW oO).symm | (rw [Sp.eV oO]; exact Sp.mE _ _)))))
 have h1p : ¬ (((Sp.mn by_ 4194304) < 0)) := pB h1
 refine qH<|aw_p 31 (
  .a 3 4 <| .p (qC (rD px py ax ay bx b_y)) <| .e 6 4) ?_
 refine aw_d 63 (
  .a 3 5 <| .p (qJ ((Sp.mn by_ 4194304) * (Sp.mn by_ 4194304)) (wrap_i64 oO oO) .i64) <| .a 1 5 <|
  .p (qC (wmul_ok ((Sp.mn by_ 4194304) * (Sp.mn by_ 4194304)) (Sp.sqd (Sp.lim 1048576 px) (Sp.lim 1048576 py) (Sp.lim 1048576 ax) (Sp.lim 1048576 ay) (Sp.lim 1048576 bx) (Sp.lim 1048576 b_y)) oO oO oO oO)) <|
  .p (qC (wcmp_ok (Sp.sqn (Sp.lim 1048576 px) (Sp.lim 1048576 py) (Sp.lim 1048576 ax) (Sp.lim 1048576 ay) (Sp.lim 1048576 bx) (Sp.lim 1048576 b_y)) (((Sp.mn by_ 4194304) * (Sp.mn by_ 4194304)) * (Sp.sqd (Sp.lim 1048576 px) (Sp.lim 1048576 py) (Sp.lim 1048576 ax) (Sp.lim 1048576 ay) (Sp.lim 1048576 bx) (Sp.lim 1048576 b_y))) oO oO oO oO)) <|
  .e 2 5) ?_
 exact qF<|qB [.bool (decide ((Sp.cmp (Sp.sqn (Sp.lim 1048576 px) (Sp.lim 1048576 py) (Sp.lim 1048576 ax) (Sp.lim 1048576 ay) (Sp.lim 1048576 bx) (Sp.lim 1048576 b_y)) (((Sp.mn by_ 4194304) * (Sp.mn by_ 4194304)) * (Sp.sqd (Sp.lim 1048576 px) (Sp.lim 1048576 py) (Sp.lim 1048576 ax) (Sp.lim 1048576 ay) (Sp.lim 1048576 bx) (Sp.lim 1048576 b_y)))) ≤ 0))] (show (.bool (decide ((Sp.cmp (Sp.sqn (Sp.lim 1048576 px) (Sp.lim 1048576 py) (Sp.lim 1048576 ax) (Sp.lim 1048576 ay) (Sp.lim 1048576 bx) (Sp.lim 1048576 b_y)) (((Sp.mn by_ 4194304) * (Sp.mn by_ 4194304)) * (Sp.sqd (Sp.lim 1048576 px) (Sp.lim 1048576 py) (Sp.lim 1048576 ax) (Sp.lim 1048576 ay) (Sp.lim 1048576 bx) (Sp.lim 1048576 b_y)))) ≤ 0)) : Value) = (.bool (Sp.wthn (Sp.lim 1048576 px) (Sp.lim 1048576 py) (Sp.lim 1048576 ax) (Sp.lim 1048576 ay) (Sp.lim 1048576 bx) (Sp.lim 1048576 b_y) by_)) from (congrArg Value.bool (show (decide ((Sp.cmp (Sp.sqn (Sp.lim 1048576 px) (Sp.lim 1048576 py) (Sp.lim 1048576 ax) (Sp.lim 1048576 ay) (Sp.lim 1048576 bx) (Sp.lim 1048576 b_y)) (((Sp.mn by_ 4194304) * (Sp.mn by_ 4194304)) * (Sp.sqd (Sp.lim 1048576 px) (Sp.lim 1048576 py) (Sp.lim 1048576 ax) (Sp.lim 1048576 ay) (Sp.lim 1048576 bx) (Sp.lim 1048576 b_y)))) ≤ 0)) = (Sp.wthn (Sp.lim 1048576 px) (Sp.lim 1048576 py) (Sp.lim 1048576 ax) (Sp.lim 1048576 ay) (Sp.lim 1048576 bx) (Sp.lim 1048576 b_y) by_) from by (first | exact (Sp.eW oO).symm | (rw [Sp.eV oO]; exact Sp.mE _ _)))))
theorem e7 (px py ax ay bx b_y : Int) (pxl : -1048576 ≤ px) (pxu : px ≤ 1048576) (pyl : -1048576 ≤ py) (pyu : py ≤ 1048576) (axl : -1048576 ≤ ax) (axu : ax ≤ 1048576) (ayl : -1048576 ≤ ay) (ayu : ay ≤ 1048576) (bxl : -1048576 ≤ bx) (bxu : bx ≤ 1048576) (b_yl : -1048576 ≤ b_y) (b_yu : b_y ≤ 1048576) : AC Try.prog 94 0 [.agg #[.int .i64 px, .int .i64 py], .agg #[.int .i64 ax, .int .i64 ay], .agg #[.int .i64 bx, .int .i64 b_y]] [] (.tuple #[.agg #[.int .i64 (Sp.wh (Sp.sqn px py ax ay bx b_y)), .int .u64 (Sp.wl (Sp.sqn px py ax ay bx b_y))], .int .i64 (Sp.sqd px py ax ay bx b_y)]) [] := by
  have q := @rD px py ax ay bx b_y
  simp only [Sp.jR pxl pxu, Sp.jR pyl pyu, Sp.jR axl axu, Sp.jR ayl ayu, Sp.jR bxl bxu, Sp.jR b_yl b_yu] at q
  exact q
theorem gR (px py ax ay bx b_y by_ : Int) (pxl : -1048576 ≤ px) (pxu : px ≤ 1048576) (pyl : -1048576 ≤ py) (pyu : py ≤ 1048576) (axl : -1048576 ≤ ax) (axu : ax ≤ 1048576) (ayl : -1048576 ≤ ay) (ayu : ay ≤ 1048576) (bxl : -1048576 ≤ bx) (bxu : bx ≤ 1048576) (b_yl : -1048576 ≤ b_y) (b_yu : b_y ≤ 1048576) : AC Try.prog 51 0 [.agg #[.int .i64 px, .int .i64 py], .agg #[.int .i64 ax, .int .i64 ay], .agg #[.int .i64 bx, .int .i64 b_y], .int .i64 by_] [] (.bool (Sp.wthn px py ax ay bx b_y by_)) [] := by
  have q := @qD9 px py ax ay bx b_y
  simp only [Sp.jR pxl pxu, Sp.jR pyl pyu, Sp.jR axl axu, Sp.jR ayl ayu, Sp.jR bxl bxu, Sp.jR b_yl b_yu] at q
  exact q by_
open Go Go.Proofs
theorem near1_ok (x y : Int) (ax ay bx b_y tol : Int) (axl : -1048576 ≤ ax) (axu : ax ≤ 1048576) (ayl : -1048576 ≤ ay) (ayu : ay ≤ 1048576) (bxl : -1048576 ≤ bx) (bxu : bx ≤ 1048576) (b_yl : -1048576 ≤ b_y) (b_yu : b_y ≤ 1048576) (xl : -1048576 ≤ x) (xu : x ≤ 1048576) (yl : -1048576 ≤ y) (yu : y ≤ 1048576) :
    AC Try.prog 105 3 ([.agg #[.int .i64 x, .int .i64 y], .pointer (some ⟨0, 0, none⟩), .pointer (some ⟨1, 0, none⟩), .pointer (some ⟨2, 0, none⟩)]) [(0, ⟨[.int .i64 ax, .int .i64 ay], 29, false, 2⟩), (1, ⟨[.int .i64 bx, .int .i64 b_y], 29, false, 2⟩), (2, ⟨[.int .i64 tol], 3, false, 1⟩)] (.bool (Sp.nrF ax ay bx b_y tol (x, y))) [] := by
 refine qK Try.func105 (fun w0 W pin => ?_)
 refine aw_e 3 2 3<|aw_p 7 (
  .a 5 4 <| .p (qC (gR x y ax ay bx b_y (Sp.mx tol 0) oO oO oO oO oO oO oO oO oO oO oO oO)) <| .e 2 4) ?_
 exact qF<|qB [.bool (!(Sp.wthn x y ax ay bx b_y (Sp.mx tol 0)))] (show (.bool (!(Sp.wthn x y ax ay bx b_y (Sp.mx tol 0))) : Value) = (.bool (Sp.nrF ax ay bx b_y tol (x, y))) from (congrArg Value.bool (show (!(Sp.wthn x y ax ay bx b_y (Sp.mx tol 0))) = (Sp.nrF ax ay bx b_y tol (x, y)) from by rfl)))
theorem nri_ok (ps : List (Int × Int)) (a n : Nat) (hn : a + n ≤ ps.length) (hz : ps.length ≤ 4096) (hf : Sp.Few 1048576 ps) (ax ay bx b_y tol : Int) (axl : -1048576 ≤ ax) (axu : ax ≤ 1048576) (ayl : -1048576 ≤ ay) (ayu : ay ≤ 1048576) (bxl : -1048576 ≤ bx) (bxu : bx ≤ 1048576) (b_yl : -1048576 ≤ b_y) (b_yu : b_y ≤ 1048576)  :
    AC Try.prog 58 4 ([.slice (some ⟨0, (0 + a * 2), none⟩) n 0, .func (.func 105) #[] #[.pointer (some ⟨1, 0, none⟩), .pointer (some ⟨2, 0, none⟩), .pointer (some ⟨3, 0, none⟩)]]) [(0, ⟨(ps.flatMap ptc), 29, false, 2⟩), (1, ⟨[.int .i64 ax, .int .i64 ay], 29, false, 2⟩), (2, ⟨[.int .i64 bx, .int .i64 b_y], 29, false, 2⟩), (3, ⟨[.int .i64 tol], 3, false, 1⟩)] (.int .i64 (Sp.ixF (Sp.nrF ax ay bx b_y tol) (Sp.subL ps a n) 0)) [] := by
 refine qK Try.func58 (fun w0 W pin => ?_)
 refine aw_e 3 1 4<|qD 6 7<|aw_e 13 3 4<|qM 0 27<|q6 55<|al_w _ _ (jS (fun i : Nat => (fun (i : Nat) => mkSt 4 [(0, .slice (some ⟨0, (0 + a * 2), none⟩) n 0), (1, .func (.func 105) #[] #[.pointer (some ⟨1, 0, none⟩), .pointer (some ⟨2, 0, none⟩), .pointer (some ⟨3, 0, none⟩)]), (7, .int .i64 ((n : Nat) : Int)), (8, .int .i64 ((i : Nat) : Int))] [(0, ⟨(ps.flatMap ptc), 29, false, 2⟩), (1, ⟨[.int .i64 ax, .int .i64 ay], 29, false, 2⟩), (2, ⟨[.int .i64 bx, .int .i64 b_y], 29, false, 2⟩), (3, ⟨[.int .i64 tol], 3, false, 1⟩)]) i) (fun i : Nat => (fun (i : Nat) => (i ≤ n) ∧ (Sp.ixF (Sp.nrF ax ay bx b_y tol) (Sp.subL ps a n) i = Sp.ixF (Sp.nrF ax ay bx b_y tol) (Sp.subL ps a n) 0)) i) (fun i : Nat => (fun (i : Nat) => n - i) i) (fun i hi1 ih1 => ?_) 0 (show (0 ≤ n) ∧ (Sp.ixF (Sp.nrF ax ay bx b_y tol) (Sp.subL ps a n) 0 = Sp.ixF (Sp.nrF ax ay bx b_y tol) (Sp.subL ps a n) 0) from ⟨by omega, by rfl⟩)) (hc := z15)
 obtain ⟨i, hv1⟩ : ∃ z, z = i := ⟨i, rfl⟩; subst hv1
 have hi1' : (i ≤ n) ∧ (Sp.ixF (Sp.nrF ax ay bx b_y tol) (Sp.subL ps a n) i = Sp.ixF (Sp.nrF ax ay bx b_y tol) (Sp.subL ps a n) 0) := hi1
 obtain ⟨hi, hh⟩ := hi1'
 show AL _ _ _ (mkSt _ _ _) _
 have fi := hf (a + i)
 refine qE<|aw_e 111 1 4<|qD 222 223<|qY 444 445 (decide (((i : Nat) : Int) < ((n : Nat) : Int))) (fun h1 => ?_) (fun h1 => ?_)
 ·have h1p : ((((i : Nat) : Int) < ((n : Nat) : Int))) := pB h1
  have hil : i < n := by omega
  refine qH<|qD 446 447<|qM 1 893<|aw_e 1787 2 4<|aw_p 3575 (
   .a 3 4 <| .p (iX 24 12 13 0 (0 + a * 2) n 2 ((i : Nat) : Int) oO oO) <|
   .p (lD 29 14 0 ((0 + a * 2) + (((i : Nat) : Int)).toNat * 2) ⟨(ps.flatMap ptc), 29, false, 2⟩ (.agg #[.int .i64 ((ps.getD (a + i) (0, 0)).1), .int .i64 ((ps.getD (a + i) (0, 0)).2)]) (qL (j := (a + i)) kK kK oO oO)) <|
   .p (does_roC [1, 2, 3] (.tmp 11) #[.pointer (some ⟨1, 0, none⟩), .pointer (some ⟨2, 0, none⟩), .pointer (some ⟨3, 0, none⟩)] #[.tmp 15] #[29] [.agg #[.int .i64 ((ps.getD (a + i) (0, 0)).1), .int .i64 ((ps.getD (a + i) (0, 0)).2)]] [(29, false), (29, false), (3, false)] (near1_ok ((ps.getD (a + i) (0, 0)).1) ((ps.getD (a + i) (0, 0)).2) ax ay bx b_y tol axl axu ayl ayu bxl bxu b_yl b_yu oO oO oO oO) (.cons (.flatB kK) (.cons (.ptr _ _ dD) (.cons (.ptr _ _ dD) (.cons (.ptr _ _ dD) .nil)))) ⟨⟨rfl, kK⟩, ⟨rfl, kK⟩, ⟨rfl, kK⟩, trivial⟩) <| .nil _ _) ?_
  refine qY 7150 7151 (Sp.nrF ax ay bx b_y tol ((ps.getD (a + i) (0, 0)).1, (ps.getD (a + i) (0, 0)).2)) (fun h2 => ?_) (fun h2 => ?_)
  ·exact aw_e 14301 2 4<|qF<|qB [.int .i64 ((i : Nat) : Int)] (show (.int .i64 ((i : Nat) : Int) : Value) = (.int .i64 (Sp.ixF (Sp.nrF ax ay bx b_y tol) (Sp.subL ps a n) 0)) from (congrArg (Value.int .i64) (show ((i : Nat) : Int) = (Sp.ixF (Sp.nrF ax ay bx b_y tol) (Sp.subL ps a n) 0) from by (first | exact (by rw [← hh, Sp.nH hn hil aA]) | exact (by rw [← hh, Sp.nJ hn hge])))))
  refine qH<|qW (
   .p (qJ (((i : Nat) : Int) + 1) (wrap_i64 oO oO) .i64) <| .e 1 4) ?_
  exact al_w _ _ (ih1 (i + 1) (show ((i + 1) ≤ n) ∧ (Sp.ixF (Sp.nrF ax ay bx b_y tol) (Sp.subL ps a n) (i + 1) = Sp.ixF (Sp.nrF ax ay bx b_y tol) (Sp.subL ps a n) 0) from ⟨by omega, by (rw [← hh]; exact Sp.ixS_no hn hil aA)⟩) (show n - (i + 1) < n - i from by omega)) (hc := z15)
 have h1p : ¬ ((((i : Nat) : Int) < ((n : Nat) : Int))) := pB h1
 have hge : ¬ i < n := by omega
 exact q5 0<|qG<|aw_e 15 1 4<|qF<|qB [.int .i64 (-1)] (show (.int .i64 (-1) : Value) = (.int .i64 (Sp.ixF (Sp.nrF ax ay bx b_y tol) (Sp.subL ps a n) 0)) from (congrArg (Value.int .i64) (show (-1) = (Sp.ixF (Sp.nrF ax ay bx b_y tol) (Sp.subL ps a n) 0) from by (first | exact (by rw [← hh, Sp.nH hn hil aA]) | exact (by rw [← hh, Sp.nJ hn hge])))))
open Go Go.Proofs
theorem nrc_ok (ps : List (Int × Int)) (a n : Nat) (hn : a + n ≤ ps.length) (hz : ps.length ≤ 4096) (hf : Sp.Few 1048576 ps) (ax ay bx b_y tol : Int) (axl : -1048576 ≤ ax) (axu : ax ≤ 1048576) (ayl : -1048576 ≤ ay) (ayu : ay ≤ 1048576) (bxl : -1048576 ≤ bx) (bxu : bx ≤ 1048576) (b_yl : -1048576 ≤ b_y) (b_yu : b_y ≤ 1048576)  :
    AC Try.prog 19 4 ([.slice (some ⟨0, (0 + a * 2), none⟩) n 0, .func (.func 105) #[] #[.pointer (some ⟨1, 0, none⟩), .pointer (some ⟨2, 0, none⟩), .pointer (some ⟨3, 0, none⟩)]]) [(0, ⟨(ps.flatMap ptc), 29, false, 2⟩), (1, ⟨[.int .i64 ax, .int .i64 ay], 29, false, 2⟩), (2, ⟨[.int .i64 bx, .int .i64 b_y], 29, false, 2⟩), (3, ⟨[.int .i64 tol], 3, false, 1⟩)] (.bool ((Sp.subL ps a n).any (Sp.nrF ax ay bx b_y tol))) [] := by
 refine qK Try.func19 (fun w0 W pin => ?_)
 refine aw_e 3 1 4<|aw_p 7 (
  .a 2 4 <|
  .p (yJ [0, 1, 2, 3] #[.tmp 5, .tmp 6] #[24, 34] [.slice (some ⟨0, (0 + a * 2), none⟩) n 0, .func (.func 105) #[] #[.pointer (some ⟨1, 0, none⟩), .pointer (some ⟨2, 0, none⟩), .pointer (some ⟨3, 0, none⟩)]] [(29, false), (29, false), (29, false), (3, false)] (nri_ok ps a n hn hz hf ax ay bx b_y tol axl axu ayl ayu bxl bxu b_yl b_yu) (.cons (.slice _ _ _ _ _ dD) (.cons (.funcL (.flats kK) (.cons (.ptr _ _ dD) (.cons (.ptr _ _ dD) (.cons (.ptr _ _ dD) .nil)))) .nil)) ⟨⟨rfl, qA _⟩, ⟨rfl, kK⟩, ⟨rfl, kK⟩, ⟨rfl, kK⟩, trivial⟩) <|
  .p (qN ((Sp.subL ps a n).any (Sp.nrF ax ay bx b_y tol)) (Sp.ixF_any _ _)) <| .e 1 4) ?_
 exact qF<|qB [.bool ((Sp.subL ps a n).any (Sp.nrF ax ay bx b_y tol))] kK
theorem near_ok (ps : List (Int × Int)) (u v : Nat) (tol : Int) (huv : u < v ∧ v < ps.length) (hz : ps.length ≤ 4096) (hf : Sp.Few 1048576 ps) :
    AC Try.prog 67 1 ([.slice (some ⟨0, (0 + (u + 1) * 2), none⟩) (v - (u + 1)) 0, .agg #[.int .i64 ((ps.getD u (0, 0)).1), .int .i64 ((ps.getD u (0, 0)).2)], .agg #[.int .i64 ((ps.getD v (0, 0)).1), .int .i64 ((ps.getD v (0, 0)).2)], .int .i64 tol]) [(0, ⟨(ps.flatMap ptc), 29, false, 2⟩)] (.bool (Sp.cS tol ps u v)) [] := by
 have fu := hf u; have fv := hf v
 refine qK Try.func67 (fun w0 W pin => ?_)
 refine aw_e 3 4 1<|aw_p 7 (
  .a 2 4 <|
  .p (yJ [0, 1, 2, 3] #[.tmp 9, .tmp 10] #[24, 34] [.slice (some ⟨0, (0 + (u + 1) * 2), none⟩) (v - (u + 1)) 0, .func (.func 105) #[] #[.pointer (some ⟨1, 0, none⟩), .pointer (some ⟨2, 0, none⟩), .pointer (some ⟨3, 0, none⟩)]] [(29, false), (29, true), (29, true), (3, true)] (nrc_ok ps (u + 1) (v - (u + 1)) oO oO hf ((ps.getD u (0, 0)).1) ((ps.getD u (0, 0)).2) ((ps.getD v (0, 0)).1) ((ps.getD v (0, 0)).2) tol oO oO oO oO oO oO oO oO) (.cons (.slice _ _ _ _ _ dD) (.cons (.funcL (.flats kK) (.cons (.ptr _ _ dD) (.cons (.ptr _ _ dD) (.cons (.ptr _ _ dD) .nil)))) .nil)) ⟨⟨rfl, qA _⟩, ⟨rfl, kK⟩, ⟨rfl, kK⟩, ⟨rfl, kK⟩, trivial⟩) <|
  .e 2 4) ?_
 exact qF<|qB [.bool (!((Sp.subL ps (u + 1) (v - (u + 1))).any (Sp.nrF ((ps.getD u (0, 0)).1) ((ps.getD u (0, 0)).2) ((ps.getD v (0, 0)).1) ((ps.getD v (0, 0)).2) tol)))] (show (.bool (!((Sp.subL ps (u + 1) (v - (u + 1))).any (Sp.nrF ((ps.getD u (0, 0)).1) ((ps.getD u (0, 0)).2) ((ps.getD v (0, 0)).1) ((ps.getD v (0, 0)).2) tol))) : Value) = (.bool (Sp.cS tol ps u v)) from (congrArg Value.bool (show (!((Sp.subL ps (u + 1) (v - (u + 1))).any (Sp.nrF ((ps.getD u (0, 0)).1) ((ps.getD u (0, 0)).2) ((ps.getD v (0, 0)).1) ((ps.getD v (0, 0)).2) tol))) = (Sp.cS tol ps u v) from by (exact Sp.nearB_any.symm))))
open Go Go.Proofs Go.RowKit Go.Shelf Go.Lib
set_option maxRecDepth 100000 in
set_option maxHeartbeats 4000000 in
theorem del_raw (blk off cap t j n : Nat) (w W1 W2 : World) (i0 : TypeInfo) (hi0 : Try.prog.info? 29 = some i0) (hz1 : i0.size = 2) (hcap : n ≤ cap) (hij : t ≤ j) (hlt : t < j) (hj : j ≤ n) (news : List Value) (hn : news.length = (n - j) * 2)
    (A : Addr) (hA : (if cap = j then (some ⟨blk, off, none⟩ : Option Addr) else some ⟨blk, off + j * 2, none⟩) = some A) (hsrc : ∀ q u, news[q]? = some u → w.drew.cell? (A.add q) = some u) (h1c : ∀ u ∈ news, u.oneCell' = true)
    (s3 : ∀ q, q < news.length → (w.drew.cell? ⟨blk, off + t * 2 + q, none⟩).isSome = true ∧ w.drew.frozen? ⟨blk, off + t * 2 + q, none⟩ = false) (hW1 : W1 = w.drew.setCells blk (off + t * 2) news)
    (hcl : ∀ ty, (Builtin.clear_ #[24] ty #[.slice (some ⟨blk, off + (t + (n - j)) * 2, none⟩) (n - (t + (n - j))) (cap - (t + (n - j)))]).run Try.prog W1 = .ok (.tuple #[]) W2) :
    Calls Try.prog 69 #[.slice (some ⟨blk, off, none⟩) n cap, .int .i64 ((t : Nat) : Int), .int .i64 ((j : Nat) : Int)] w fun e w' => e = .returned (.slice (some ⟨blk, off, none⟩) (t + (n - j)) cap) ∧ w' = W2 := by
  have hic : t ≤ cap := by omega
  have hjc : j ≤ cap := by omega
  have mixed : Try.prog.follows .mixedOrders = true := by kernel_rfl
  have t24 : Try.prog.underlying 24 = some (.slice 29) := by kernel_rfl
  have hW : Hid (W1 = w.drew.setCells blk (off + t * 2) news) := hW1
  have hn' : Hid (news.length = (n - j) * 2) := hn
  have hs' : Hid (∀ q u, news[q]? = some u → w.drew.cell? (A.add q) = some u) := hsrc
  have h1' : Hid (∀ u ∈ news, u.oneCell' = true) := h1c
  have s3' : Hid (∀ q, q < news.length → (w.drew.cell? ⟨blk, off + t * 2 + q, none⟩).isSome = true ∧ w.drew.frozen? ⟨blk, off + t * 2 + q, none⟩ = false) := s3
  clear hW1 hn hsrc h1c s3
  refine calls_of_wp Try.func69 rfl ?_
  simp only [Try.ntmps69, List.size_toArray, List.length_cons, List.length_nil, Nat.reduceAdd, Nat.reduceSub, Array.replicate_succ, Array.replicate_zero, List.push_toArray, List.append_toArray, List.nil_append, List.cons_append]
  go_wp2_with fail
  go_region_law_o (refine step_append_room rfl (.tmp 22) (.tmp 25) 24 rfl 29 i0 2 t24 hi0 hz1 blk off t cap (by simp [Act.eval, Act.put]) A (n - j) (cap - j) news (by simp [Act.eval, Act.put]) hn'.out hs'.out h1'.out (by omega) s3'.out ?_; rw [← hW.out])
  go_wp2
  go_ret
  exact ⟨rfl, rfl⟩
theorem sQ (ps : List (Int × Int)) (q : Nat) (u : Value) (h : (ps.flatMap ptc)[q]? = some u) : flatB u = true ∧ fM u = true := by
  obtain ⟨p, _, hp⟩ := List.mem_flatMap.1 (List.mem_of_getElem? h)
  simp only [ptc, List.mem_cons, List.not_mem_nil, or_false] at hp
  rcases hp with rfl | rfl <;> exact ⟨rfl, rfl⟩
theorem fN {u : Value} (h : fM u = true) (hf : flatB u = true) : u.oneCell' = true := rM (ρ := fun _ => none) (.of_only (qT hf)) h
theorem del_ok (ps : List (Int × Int)) (t : Nat) (ht : t < ps.length) : AC Try.prog 69 1 [.slice (some ⟨0, 0, none⟩) ps.length 0, .int .i64 ((t : Nat) : Int), .int .i64 ((t + 1 : Nat) : Int)] [(0, ⟨ps.flatMap ptc, 29, true, 2⟩)] (.slice (some ⟨0, 0, none⟩) (ps.length - 1) 0) [(0, ⟨(ps.eraseIdx t).flatMap ptc, 29, true, 2⟩)] := by
  intro ρ w args' hl ha hp hlow hhigh
  obtain ⟨a0, e0, r0⟩ := ha 0 _ rfl
  obtain ⟨a1, e1, r1⟩ := ha 1 _ rfl
  obtain ⟨a2, e2, r2⟩ := ha 2 _ rfl
  have r1 := r1.eq_of_only (.int _ _)
  have r2 := r2.eq_of_only (.int _ _)
  subst r1 r2
  obtain ⟨n, hn⟩ : ∃ n, n = ps.length := ⟨_, rfl⟩
  rw [← hn] at r0
  cases r0 with
  | slice0 => omega
  | slice _ _ _ _ cap sp hk hc hs =>
    have hargs : args' = #[.slice (some ⟨sp.block, sp.off + 0, none⟩) n cap, .int .i64 ((t : Nat) : Int), .int .i64 ((t + 1 : Nat) : Int)] := by
      apply Array.ext'
      apply List.ext_getElem?
      intro q
      match q with
      | 0 => simpa using e0
      | 1 => simpa using e1
      | 2 => simpa using e2
      | q + 3 => rw [List.getElem?_eq_none_iff.2 (by simp at hl ⊢; omega)]; simp
    subst hargs
    obtain ⟨sp', hk', bok⟩ := hp.live 0 _ List.mem_cons_self
    rw [hk] at hk'; cases hk'
    have bo := bok
    rw [jC.own rfl] at bo
    obtain ⟨hst, c, hg, hcs, hcl, hcc⟩ := bo
    have hst : sp.step = 2 := hst
    rw [hst] at hs
    have hcl : (ps.flatMap ptc).length ≤ sp.size := hcl
    rw [pairs_length] at hcl
    have hget : ∀ (q : Nat) (u : Value), (ps.flatMap ptc)[q]? = some u → c[sp.off + q]? = some u := fun q u hu => by
      obtain ⟨v, h1, h2⟩ := hcc q u hu
      have := h2.eq_of_only (qT (sQ ps q u hu).1)
      rw [h1, this]
    obtain ⟨i0, hi0, hz1⟩ : ∃ i0, Try.prog.info? 29 = some i0 ∧ i0.size = 2 := by
      have h : (Try.prog.info? 29).map (·.size) = some 2 := by kernel_rfl
      obtain ⟨i0, h1, h2⟩ := Option.map_eq_some_iff.1 h
      exact ⟨i0, h1, h2⟩
    -- what is moved
    obtain ⟨news, hnews⟩ : ∃ news, news = (ps.drop (t + 1)).flatMap ptc := ⟨_, rfl⟩
    have hlen : news.length = (n - (t + 1)) * 2 := by rw [hnews, pairs_length, List.length_drop]; omega
    have hnq : ∀ q, news[q]? = (ps.flatMap ptc)[2 * (t + 1) + q]? := fun q => by rw [hnews, ← fA, List.getElem?_drop]
    have hnf : ∀ u ∈ news, flatB u = true ∧ fM u = true := fun u hu => by
      obtain ⟨q, hq, e⟩ := List.getElem_of_mem hu
      exact sQ ps (2 * (t + 1) + q) u (by rw [← hnq, List.getElem?_eq_getElem hq, e])
    have hgd : w.drew.heap[sp.block]? = some (.cells c 29 (0, 0)) := hg
    have cellw : ∀ q, w.drew.cell? ⟨sp.block, q, none⟩ = c[q]? := fun q => cell_of_row w.drew sp.block q c 29 (0, 0) hgd
    have fin : ∀ q u, ((ps.eraseIdx t).flatMap ptc)[q]? = some u → (q < 2 * t ∧ (ps.flatMap ptc)[q]? = some u) ∨ (2 * t ≤ q ∧ news[q - 2 * t]? = some u) := fun q u hu => by
      rw [List.eraseIdx_eq_take_drop_succ, List.flatMap_append] at hu
      have hl1 : ((ps.take t).flatMap ptc).length = 2 * t := by rw [pairs_length, List.length_take]; omega
      rcases Nat.lt_or_ge q (2 * t) with hq | hq
      · refine .inl ⟨hq, ?_⟩
        rw [List.getElem?_append_left (by omega)] at hu
        have : ps.flatMap ptc = (ps.take t).flatMap ptc ++ (ps.drop t).flatMap ptc := by rw [← List.flatMap_append, List.take_append_drop]
        rw [this, List.getElem?_append_left (by omega)]; exact hu
      · refine .inr ⟨hq, ?_⟩
        rw [List.getElem?_append_right (by omega), hl1] at hu
        rw [hnews]; exact hu
    have hel : ((ps.eraseIdx t).flatMap ptc).length = 2 * (n - 1) := by rw [pairs_length, List.length_eraseIdx_of_lt ht]; omega
    have s3 : ∀ q, q < news.length → (w.drew.cell? ⟨sp.block, sp.off + t * 2 + q, none⟩).isSome = true ∧ w.drew.frozen? ⟨sp.block, sp.off + t * 2 + q, none⟩ = false := fun q hq => by
      rw [cellw]
      exact ⟨by rw [Array.getElem?_eq_getElem (by omega)]; rfl, frozen_of_row w.drew sp.block _ c 29 hgd⟩
    -- the world behind the append
    obtain ⟨w1, c1, b1, b2, b3, b4, b5, b6, b7, b8, b9⟩ := j7 (P := Try.prog) (ρ := ρ) (blk := sp.block) (o := sp.off) (e := 29) (fin := (ps.eraseIdx t).flatMap ptc) news news w.drew c (t * 2) 0 hgd (by omega) rfl
      (fun u hu => (hnf u hu).2) (fun q u hu => ⟨u, hu, .of_only (qT (hnf u (List.mem_of_getElem? hu)).1)⟩)
      (fun q u hu => by
        rw [List.eraseIdx_eq_take_drop_succ, List.flatMap_append]
        have hl1 : ((ps.take t).flatMap ptc).length = 2 * t := by rw [pairs_length, List.length_take]; omega
        rw [List.getElem?_append_right (by omega), hl1, show t * 2 + 0 + q - 2 * t = q by omega, ← hnews]; exact hu)
      (fun q u hq hu => by
        rcases fin q u hu with ⟨h1, h2⟩ | ⟨h1, h2⟩
        · exact ⟨u, hget q u h2, .of_only (qT (sQ ps q u h2).1)⟩
        · obtain ⟨hh, _⟩ := List.getElem?_eq_some_iff.1 h2
          omega)
    have hw1 : w1 = w.drew.setCells sp.block (sp.off + t * 2) news := by
      have := run_storeCells_cells (P := Try.prog) sp.block (sp.off + t * 2) news 0 w.drew (fun q hq => (s3 q hq).1) (fun q hq => (s3 q hq).2) (fun u hu => fN (hnf u hu).2 (hnf u hu).1)
      rw [b1] at this
      simp only [Result.ok.injEq, Nat.add_zero, true_and] at this
      exact this
    -- behind the clearing
    obtain ⟨w2, c2, d1, d2, d3, d4, d5, d6, d7, d8, d9⟩ := j7 (P := Try.prog) (ρ := ρ) (blk := sp.block) (o := sp.off) (e := 29) (fin := (ps.eraseIdx t).flatMap ptc ++ [.int .i64 0, .int .i64 0]) [.int .i64 0, .int .i64 0] [.int .i64 0, .int .i64 0] w1 c1 ((t + (n - (t + 1))) * 2) 0 b2 (by simp; omega) rfl
      (fun u hu => by simp at hu; subst hu; rfl) (fun q u hu => ⟨u, hu, by
        have hm := List.mem_of_getElem? hu
        simp at hm; subst hm; exact .int _ _⟩)
      (fun q u hu => by
        rw [List.getElem?_append_right (by omega), hel, show (t + (n - (t + 1))) * 2 + 0 + q - 2 * (n - 1) = q by omega]; exact hu)
      (fun q u hq hu => by
        simp only [List.length_cons, List.length_nil] at hq
        rcases Nat.lt_or_ge q (2 * (n - 1)) with h | h
        · rw [List.getElem?_append_left (by omega)] at hu; exact b4 q u hu
        · rw [List.getElem?_append_right (by omega)] at hu
          obtain ⟨hh, _⟩ := List.getElem?_eq_some_iff.1 hu
          have hh : q - ((ps.eraseIdx t).flatMap ptc).length < 2 := hh
          omega)
    have hclr : ∀ ty, (Builtin.clear_ #[24] ty #[.slice (some ⟨sp.block, sp.off + (t + (n - (t + 1))) * 2, none⟩) (n - (t + (n - (t + 1)))) (cap - (t + (n - (t + 1))))]).run Try.prog w1 = .ok (.tuple #[]) w2 := fun ty => by
      have hu : Try.prog.underlying 24 = some (.slice 29) := by kernel_rfl
      have hz : (zeroValue 29).run Try.prog w1 = .ok (.agg #[.int .i64 0, .int .i64 0]) w1 := bY (by kernel_rfl) w1
      rw [show n - (t + (n - (t + 1))) = 0 + 1 by omega]
      have hzc : (Builtin.zeroCells (Value.agg #[.int .i64 0, .int .i64 0]).cells (0 + 1)).toList = [.int .i64 0, .int .i64 0] := by kernel_rfl
      simp only [Builtin.clear_, List.getElem?_toArray, List.getElem?_cons_zero, Sem.run_bind, run_underlying hu, Result.andThen_ok, hz, hzc, d1, Sem.run_pure]
    obtain ⟨A, hA, hsrc⟩ : ∃ A : Addr, (if cap = t + 1 then (some ⟨sp.block, sp.off + 0, none⟩ : Option Addr) else some ⟨sp.block, sp.off + 0 + (t + 1) * 2, none⟩) = some A ∧ (∀ q u, news[q]? = some u → w.drew.cell? (A.add q) = some u) := by
      by_cases h : cap = t + 1
      · refine ⟨_, if_pos h, fun q u hu => ?_⟩
        obtain ⟨hh, _⟩ := List.getElem?_eq_some_iff.1 hu
        omega
      · refine ⟨_, if_neg h, fun q u hu => ?_⟩
        rw [add_at, cellw]
        rw [hnq] at hu
        have := hget _ u hu
        rw [show sp.off + 0 + (t + 1) * 2 + q = sp.off + (2 * (t + 1) + q) by omega]; exact this
    have main := del_raw sp.block (sp.off + 0) cap t (t + 1) n w w1 w2 i0 hi0 hz1 hc (by omega) (by omega) (by omega) news hlen A hA hsrc (fun u hu => fN (hnf u hu).2 (hnf u hu).1) s3 hw1 hclr
    refine main.mono ?_
    rintro e w' ⟨rfl, rfl⟩
    have hfr : FrameOk w (jX ρ [(0, ⟨ps.flatMap ptc, 29, true, 2⟩)]) w' := by
      refine ⟨by rw [d6, b6]; rfl, by rw [d7, b7]; rfl, by rw [d8, b8]; rfl, by rw [d5, b5]; exact Nat.le_refl _, fun b hb hW => ?_⟩
      have hne : b ≠ sp.block := fun e => hW ⟨0, _, sp, List.mem_cons_self, rfl, hk, e.symm⟩
      rw [d9 b hne, b9 b hne]; rfl
    refine ⟨_, ρ, rfl, ?_, fun _ _ => rfl, ⟨fun k b hb => ?_, fun k k' b b' sp1 sp2 hne h1 h2 => ?_⟩, fun k b sp1 hk1 hb => ?_, hfr⟩
    · have := VRel.slice (ρ := ρ) 0 0 (t + (n - (t + 1))) 0 cap sp hk (by omega) (by rw [hst]; omega)
      rw [show ps.length - 1 = t + (n - (t + 1)) by omega]; exact this
    · simp only [List.mem_cons, List.not_mem_nil, or_false, Prod.mk.injEq] at hb
      obtain ⟨rfl, rfl⟩ := hb
      refine ⟨sp, hk, ?_⟩
      rw [jC.own rfl]
      refine ⟨hst, c2, d2, by rw [d3, b3]; exact hcs, by show ((ps.eraseIdx t).flatMap ptc).length ≤ _; omega, fun q u hu => ?_⟩
      have hu : ((ps.eraseIdx t).flatMap ptc)[q]? = some u := hu
      obtain ⟨hh, _⟩ := List.getElem?_eq_some_iff.1 hu
      exact d4 q u (by rw [List.getElem?_append_left hh]; exact hu)
    · simp only [List.mem_cons, List.not_mem_nil, or_false, Prod.mk.injEq] at h1 h2
      exact absurd (h1.1.trans h2.1.symm) hne
    · simp only [List.mem_cons, List.not_mem_nil, or_false, Prod.mk.injEq] at hb
      omega
open Go Go.Proofs
theorem qF2 (kl x : List (Int × Int)) (f : Nat) (hf : f < x.length) : AC Try.prog 69 1 [.slice (some ⟨0, 0, none⟩) (kl ++ x.drop f).length 0, .int .i64 ((kl.length : Nat) : Int), .int .i64 ((kl.length + 1 : Nat) : Int)] [(0, ⟨((kl ++ x.drop f).flatMap ptc), 29, true, 2⟩)] (.slice (some ⟨0, 0, none⟩) (kl ++ x.drop (f + 1)).length 0) [(0, ⟨((kl ++ x.drop (f + 1)).flatMap ptc), 29, true, 2⟩)] := by
  have h := del_ok (kl ++ x.drop f) kl.length (by rw [List.length_append, List.length_drop]; omega)
  rw [show (kl ++ x.drop f).eraseIdx kl.length = kl ++ x.drop (f + 1) from Sp.del_app hf, show (kl ++ x.drop f).length - 1 = (kl ++ x.drop (f + 1)).length from by simp only [List.length_append, List.length_drop]; omega] at h
  exact h
open Go Go.Proofs
theorem clone_ro (ps : List (Int × Int)) (hn : 1 ≤ ps.length) (hz : ps.length ≤ 4096) :
    AC Try.prog 66 1 ([.slice (some ⟨0, 0, none⟩) ps.length 0]) [(0, ⟨(ps.flatMap ptc), 29, false, 2⟩)] (.slice (some ⟨1, 0, none⟩) ps.length 0) [(1, ⟨(ps.flatMap ptc), 29, true, 2⟩)] := by
 refine qK Try.func66 (fun w0 W pin => ?_)
 refine aw_e 3 1 2<|qD 6 7<|aw_p 13 (
  .a 1 2 <| .p (bL (k := 0) (off := 0) (n := ps.length) (c := 0) kK oO) <| .nil _ _) ?_
 refine qP 27<|qH<|aw_p 15 (
  .a 2 2 <|
  .p (does_apg ps.length 1 29 2 16 2 0 0 0 ps.length ⟨[], 29, true, 2⟩ ⟨(ps.flatMap ptc), 29, false, 2⟩ (ps.flatMap ptc) kK kK kK kK kK (sR _) (by rw [Nat.zero_mul]; exact Nat.zero_le _) (by show _ ≤ (ps.flatMap ptc).length; rw [pairs_length]; omega) (.inl hn) oO oO (by show List.take _ [] ++ ((ps.flatMap ptc).drop _).take _ = _; rw [uM (j := 0) (k := ps.length) oO oO, List.drop_zero, List.take_length, List.take_nil, List.nil_append]) oO) <|
  .e 1 3) ?_
 exact qF<|qB [.slice (some ⟨1, 0, none⟩) ps.length 0] kK
end Go.Proofs.Ytadifmimefmcnaa.Am
