/-
  The walks of package frac.
-/
import Derived.Test.YtcokagabchjilaaGreatProg
import Derived.Test.YtcokagabchjilaaGreatAm16
import Derived.Test.YtcokagabchjilaaGreatWd1
import Derived.Test.YtcokagabchjilaaGreatNc7
namespace Go.Proofs.YtcokagabchjilaaGreat.Am
open Go Go.Proofs
set_option maxRecDepth 100000
set_option maxHeartbeats 4000000
set_option linter.unusedVariables false
set_option linter.unusedSimpArgs false

theorem fsize_ok (n : Int) (zln : -9223372036854775808 ≤ n) (zun : n ≤ 9223372036854775807) :
    AC Tryz.prog 81 0 ([.int .i64 n]) [] (.int .u64 (n.natAbs : Int)) [] := by
  refine ac_in Tryz.func81 (fun w0 W pin => ?_)
  refine aw_p 3 (
    .a 1 1 <| .nil _ _) ?_
  refine aw_sq 6 7 ?_
  refine aw_p 13 (
    .a 2 1 <| .nil _ _) ?_
  refine aw_cd 26 27 (decide (n < 0)) (fun h1 => ?_) (fun h1 => ?_)
  · have h1p : ((n < 0)) := by first | (simpa using h1) | (have h1q := h1; simp at h1q; omega) | (have h1q := bx1 h1; simp at h1q; omega)
    refine aw_p 53 (
      .a 1 1 <| .p (does_i (n % 18446744073709551616) (Sp.ulow) .u64) <| .p (does_i (n.natAbs : Int) ((show (IntKind.wrap .u64 (0 - (n % 18446744073709551616))) = (n.natAbs : Int) from (by rw [IntKind.wrap_u64]; omega))) .u64) <| .a 1 1 <| .nil _ _) ?_
    refine aw_rt ?_
    refine then_ret ?_
    exact en_ret [.int .u64 (n.natAbs : Int)] (by kernel_rfl)
  · have h1p : ¬ ((n < 0)) := by first | (simpa using h1) | (have h1q := h1; simp at h1q; omega) | (have h1q := bx2 h1; simp at h1q; omega)
    refine aw_sk ?_
    refine then_normal ?_
    refine aw_p 15 (
      .a 1 1 <| .p (does_i (n.natAbs : Int) ((show (IntKind.wrap .u64 n) = (n.natAbs : Int) from (by rw [IntKind.wrap_u64]; omega))) .u64) <| .a 1 1 <| .nil _ _) ?_
    refine aw_rt ?_
    exact en_ret [.int .u64 (n.natAbs : Int)] (by kernel_rfl)

theorem fgcd_ok (m n : Int) (z0 : 0 ≤ m) (z1 : m ≤ 18446744073709551615) (z2 : 0 ≤ n) (z3 : n ≤ 18446744073709551615) :
    AC Tryz.prog 80 0 ([.int .u64 m, .int .u64 n]) [] (.int .u64 (Int.gcd m n : Int)) [] := by
  refine ac_in Tryz.func80 (fun w0 W pin => ?_)
  refine aw_p 3 (
    .a 1 1 <| .nil _ _) ?_
  refine aw_sq 6 7 ?_
  refine aw_bl 0 13 ?_
  refine aw_lp 27 ?_
  refine al_w [(0, .int .u64 m), (1, .int .u64 n), (4, .int .u64 0)] [] ?_
  refine al_ind (fun i : Int × Int => (fun (a : Int) (b : Int) => mkSt 0 [(0, .int .u64 a), (1, .int .u64 b), (4, .int .u64 0)] []) i.1 i.2) (fun i : Int × Int => (fun (a : Int) (b : Int) => (0 ≤ a) ∧ (a ≤ 18446744073709551615) ∧ (0 ≤ b) ∧ (b ≤ 18446744073709551615) ∧ (Int.gcd a b = Int.gcd m n)) i.1 i.2) (fun i : Int × Int => (fun (a : Int) (b : Int) => b.toNat) i.1 i.2) (fun i hi1 ih1 => ?_) (m, n) (show (0 ≤ m) ∧ (m ≤ 18446744073709551615) ∧ (0 ≤ n) ∧ (n ≤ 18446744073709551615) ∧ (Int.gcd m n = Int.gcd m n) from ⟨by omega, by omega, by omega, by omega, by rfl⟩)
  obtain ⟨a, b⟩ := i
  have hi1' : (0 ≤ a) ∧ (a ≤ 18446744073709551615) ∧ (0 ≤ b) ∧ (b ≤ 18446744073709551615) ∧ (Int.gcd a b = Int.gcd m n) := hi1
  obtain ⟨ha0, ha1, hb0, hb1, hg⟩ := hi1'
  show AL _ _ _ (mkSt 0 [(0, .int .u64 a), (1, .int .u64 b), (4, .int .u64 0)] []) _
  refine al_round ?_
  refine aw_sq 54 55 ?_
  refine aw_p 109 (
    .a 2 1 <| .nil _ _) ?_
  refine aw_cd 218 219 (decide (b > 0)) (fun h1 => ?_) (fun h1 => ?_)
  · have h1p : ((b > 0)) := by first | (simpa using h1) | (have h1q := h1; simp at h1q; omega) | (have h1q := bx1 h1; simp at h1q; omega)
    refine aw_sk ?_
    refine then_normal ?_
    refine aw_bl 1 111 ?_
    refine aw_d1 (
      .a 3 1 <| .p (does_int (n' := a % b) (does_rem (t := 51) (t2 := 51) (x := .tmp 8) (y := .tmp 9) (k := .u64) (a := a) (b := b) (by kernel_rfl) (by kernel_rfl) (by kernel_rfl) (by omega)) (Sp.umod ha0)) <| .a 2 1 <| .nil _ _) ?_
    refine block_normal ?_
    refine then_normal ?_
    refine al_w [(0, .int .u64 b), (1, .int .u64 (a % b)), (4, .int .u64 0)] [] ?_
    exact ih1 (b, (a % b)) (show (0 ≤ b) ∧ (b ≤ 18446744073709551615) ∧ (0 ≤ (a % b)) ∧ ((a % b) ≤ 18446744073709551615) ∧ (Int.gcd b (a % b) = Int.gcd m n) from ⟨by omega, by omega, by (have := Sp.emod_lt (a := a) (b := b) (by omega); omega), by (have := Sp.emod_lt (a := a) (b := b) (by omega); omega), by (rw [← hg]; exact Sp.gcd_step ha0 hb0)⟩) (show (a % b).toNat < b.toNat from by (have := Sp.emod_lt (a := a) (b := b) (by omega); omega))
  · have h1p : ¬ ((b > 0)) := by first | (simpa using h1) | (have h1q := h1; simp at h1q; omega) | (have h1q := bx2 h1; simp at h1q; omega)
    refine aw_ex 0 ?_
    refine then_exit ?_
    refine then_exit ?_
    refine block_exit ?_
    refine then_normal ?_
    refine aw_p 15 (
      .a 2 1 <| .nil _ _) ?_
    refine aw_rt ?_
    exact en_ret [.int .u64 a] (show (.int .u64 a : Value) = (.int .u64 (Int.gcd m n : Int)) from (congrArg (Value.int .u64) (show a = (Int.gcd m n : Int) from by (rw [← hg, show b = 0 by omega, Int.gcd_zero_right]; omega))))

theorem fgood_ok (n1 d1 : Int) (zln1 : -9223372036854775808 ≤ n1) (zun1 : n1 ≤ 9223372036854775807) (zld1 : -9223372036854775808 ≤ d1) (zud1 : d1 ≤ 9223372036854775807) :
    AC Tryz.prog 67 0 ([.agg #[.int .i64 n1, .int .i64 d1]]) [] (.bool (Sp.gd n1 d1)) [] := by
  refine ac_in Tryz.func67 (fun w0 W pin => ?_)
  refine aw_p 3 (
    .a 2 1 <| .nil _ _) ?_
  rcases Bool.eq_false_or_eq_true (decide (0 < d1)) with h1 | h1
  · have h1p : ((0 < d1)) := by first | (simpa using h1) | (have h1q := h1; simp at h1q; omega) | (have h1q := bx1 h1; simp at h1q; omega)
    rcases Bool.eq_false_or_eq_true (decide (-9223372036854775808 < n1)) with h2 | h2
    · have h2p : ((-9223372036854775808 < n1)) := by first | (simpa using h2) | (have h2q := h2; simp at h2q; omega) | (have h2q := bx1 h2; simp at h2q; omega)
      refine aw_d 7 (
        .a 2 2 <| .p (does_b true ((rfl).trans (h1))) <| .a 3 2 <| .p (does_b true ((rfl).trans (h2))) <| .a 4 2 <| .p (does_c (fsize_ok n1 (by omega) (by omega))) <| .a 2 2 <| .p (does_c (fsize_ok d1 (by omega) (by omega))) <|
        .p (does_c (fgcd_ok (n1.natAbs : Int) (d1.natAbs : Int) (by omega) (by omega) (by omega) (by omega))) <| .p (does_b (decide (Nat.gcd n1.natAbs d1.natAbs = 1)) (Sp.gcd_one _ _)) <| .a 2 2 <| .nil _ _) ?_
      refine aw_rt ?_
      exact en_ret [.bool (decide (Nat.gcd n1.natAbs d1.natAbs = 1))] (show (.bool (decide (Nat.gcd n1.natAbs d1.natAbs = 1)) : Value) = (.bool (Sp.gd n1 d1)) from (congrArg Value.bool (show (decide (Nat.gcd n1.natAbs d1.natAbs = 1)) = (Sp.gd n1 d1) from by (simp only [Sp.gd, *, decide_true, decide_false, Bool.true_and, Bool.false_and, Bool.and_false]))))
    · have h2p : ¬ ((-9223372036854775808 < n1)) := by first | (simpa using h2) | (have h2q := h2; simp at h2q; omega) | (have h2q := bx2 h2; simp at h2q; omega)
      refine aw_d 7 (
        .a 2 2 <| .p (does_b true ((rfl).trans (h1))) <| .a 3 2 <| .p (does_b false ((rfl).trans (h2))) <| .a 12 2 <| .nil _ _) ?_
      refine aw_rt ?_
      exact en_ret [.bool false] (show (.bool false : Value) = (.bool (Sp.gd n1 d1)) from (congrArg Value.bool (show false = (Sp.gd n1 d1) from by (simp only [Sp.gd, *, decide_true, decide_false, Bool.true_and, Bool.false_and, Bool.and_false]))))
  · have h1p : ¬ ((0 < d1)) := by first | (simpa using h1) | (have h1q := h1; simp at h1q; omega) | (have h1q := bx2 h1; simp at h1q; omega)
    refine aw_d 7 (
      .a 2 2 <| .p (does_b false ((rfl).trans (h1))) <| .a 16 2 <| .nil _ _) ?_
    refine aw_rt ?_
    exact en_ret [.bool false] (show (.bool false : Value) = (.bool (Sp.gd n1 d1)) from (congrArg Value.bool (show false = (Sp.gd n1 d1) from by (simp only [Sp.gd, *, decide_true, decide_false, Bool.true_and, Bool.false_and, Bool.and_false]))))

theorem ffit_ok (n1 d1 : Int) (zln1 : -9223372036854775808 ≤ n1) (zun1 : n1 ≤ 9223372036854775807) (zld1 : -9223372036854775808 ≤ d1) (zud1 : d1 ≤ 9223372036854775807) :
    AC Tryz.prog 36 0 ([.agg #[.int .i64 n1, .int .i64 d1]]) [] (.agg #[.int .i64 (Sp.fn n1 d1), .int .i64 (Sp.fd n1 d1)]) [] := by
  refine ac_in Tryz.func36 (fun w0 W pin => ?_)
  refine aw_p 3 (
    .a 2 1 <| .nil _ _) ?_
  refine aw_sq 6 7 ?_
  refine aw_p 13 (
    .a 1 3 <| .p (does_c (fgood_ok n1 d1 (by omega) (by omega) (by omega) (by omega))) <| .a 1 3 <| .nil _ _) ?_
  refine aw_cd 26 27 (!(Sp.gd n1 d1)) (fun h1 => ?_) (fun h1 => ?_)
  · have h1p : ¬ (Sp.gd n1 d1) = true := by simpa using h1
    refine aw_p 53 (
      .a 2 3 <| .nil _ _) ?_
    refine aw_rt ?_
    refine then_ret ?_
    exact en_ret [.agg #[.int .i64 0, .int .i64 1]] (show (.agg #[.int .i64 0, .int .i64 1] : Value) = (.agg #[.int .i64 (Sp.fn n1 d1), .int .i64 (Sp.fd n1 d1)]) from (congrArg (fun z : List Value => Value.agg z.toArray) (lcons (congrArg (Value.int .i64) (show 0 = (Sp.fn n1 d1) from by (first | (rw [Sp.fn_no h1p]; first | done | decide +kernel) | (rw [Sp.fd_no h1p]; first | done | decide +kernel) | (rw [Sp.fn_yes h1p]) | (rw [Sp.fd_yes h1p])))) (lcons (congrArg (Value.int .i64) (show 1 = (Sp.fd n1 d1) from by (first | (rw [Sp.fn_no h1p]; first | done | decide +kernel) | (rw [Sp.fd_no h1p]; first | done | decide +kernel) | (rw [Sp.fn_yes h1p]) | (rw [Sp.fd_yes h1p])))) rfl))))
  · have h1p : (Sp.gd n1 d1) = true := by simpa using h1
    refine aw_sk ?_
    refine then_normal ?_
    refine aw_p 15 (
      .a 2 3 <| .nil _ _) ?_
    refine aw_rt ?_
    exact en_ret [.agg #[.int .i64 n1, .int .i64 d1]] (show (.agg #[.int .i64 n1, .int .i64 d1] : Value) = (.agg #[.int .i64 (Sp.fn n1 d1), .int .i64 (Sp.fd n1 d1)]) from (congrArg (fun z : List Value => Value.agg z.toArray) (lcons (congrArg (Value.int .i64) (show n1 = (Sp.fn n1 d1) from by (first | (rw [Sp.fn_no h1p]; first | done | decide +kernel) | (rw [Sp.fd_no h1p]; first | done | decide +kernel) | (rw [Sp.fn_yes h1p]) | (rw [Sp.fd_yes h1p])))) (lcons (congrArg (Value.int .i64) (show d1 = (Sp.fd n1 d1) from by (first | (rw [Sp.fn_no h1p]; first | done | decide +kernel) | (rw [Sp.fd_no h1p]; first | done | decide +kernel) | (rw [Sp.fn_yes h1p]) | (rw [Sp.fd_yes h1p])))) rfl))))

theorem fsigned_ok (b : Bool) (x y : Int) (z0 : 0 ≤ x) (z1 : x ≤ 18446744073709551615) (z2 : 0 ≤ y) (z3 : y ≤ 18446744073709551615) :
    AC Tryz.prog 84 0 ([.bool b, .int .u64 x, .int .u64 y]) [] (.tuple #[.agg #[.int .i64 (Sp.sgN b x y), .int .i64 (Sp.sgD x y)], .int .i64 (Sp.sgE x y)]) [] := by
  refine ac_in Tryz.func84 (fun w0 W pin => ?_)
  refine aw_p 3 (
    .a 2 1 <| .nil _ _) ?_
  refine aw_sq 6 7 ?_
  rcases Bool.eq_false_or_eq_true (decide (x > 9223372036854775807)) with h1 | h1
  · have h1p : ((x > 9223372036854775807)) := by first | (simpa using h1) | (have h1q := h1; simp at h1q; omega) | (have h1q := bx1 h1; simp at h1q; omega)
    refine aw_p 13 (
      .a 1 2 <| .p (does_b true (h1)) <| .a 4 2 <| .nil _ _) ?_
    refine aw_tr 26 ?_
    refine aw_p 53 (
      .a 3 2 <| .nil _ _) ?_
    refine aw_rt ?_
    refine then_ret ?_
    exact en_ret [.agg #[.int .i64 0, .int .i64 0], .int .i64 2] (show (.tuple #[.agg #[.int .i64 0, .int .i64 0], .int .i64 2] : Value) = (.tuple #[.agg #[.int .i64 (Sp.sgN b x y), .int .i64 (Sp.sgD x y)], .int .i64 (Sp.sgE x y)]) from (congrArg (fun z : List Value => Value.tuple z.toArray) (lcons (congrArg (fun z : List Value => Value.agg z.toArray) (lcons (congrArg (Value.int .i64) (show 0 = (Sp.sgN b x y) from by (first | exact (Sp.sg_no b (by omega)).1 | exact (Sp.sg_no b (by omega)).2.1 | exact (Sp.sg_no b (by omega)).2.2 | (simp only [*]; first | exact (Sp.sg_yes (by omega) (by omega)).1 | exact (Sp.sg_yes (by omega) (by omega)).2.1) | exact (Sp.sg_yes (by omega) (by omega)).2.2.1 | exact (Sp.sg_yes (by omega) (by omega)).2.2.2))) (lcons (congrArg (Value.int .i64) (show 0 = (Sp.sgD x y) from by (first | exact (Sp.sg_no b (by omega)).1 | exact (Sp.sg_no b (by omega)).2.1 | exact (Sp.sg_no b (by omega)).2.2 | (simp only [*]; first | exact (Sp.sg_yes (by omega) (by omega)).1 | exact (Sp.sg_yes (by omega) (by omega)).2.1) | exact (Sp.sg_yes (by omega) (by omega)).2.2.1 | exact (Sp.sg_yes (by omega) (by omega)).2.2.2))) rfl))) (lcons (congrArg (Value.int .i64) (show 2 = (Sp.sgE x y) from by (first | exact (Sp.sg_no b (by omega)).1 | exact (Sp.sg_no b (by omega)).2.1 | exact (Sp.sg_no b (by omega)).2.2 | (simp only [*]; first | exact (Sp.sg_yes (by omega) (by omega)).1 | exact (Sp.sg_yes (by omega) (by omega)).2.1) | exact (Sp.sg_yes (by omega) (by omega)).2.2.1 | exact (Sp.sg_yes (by omega) (by omega)).2.2.2))) rfl))))
  · have h1p : ¬ ((x > 9223372036854775807)) := by first | (simpa using h1) | (have h1q := h1; simp at h1q; omega) | (have h1q := bx2 h1; simp at h1q; omega)
    refine aw_p 13 (
      .a 1 2 <| .p (does_b false (h1)) <| .a 4 2 <| .nil _ _) ?_
    refine aw_cd 26 27 (decide (y > 9223372036854775807)) (fun h2 => ?_) (fun h2 => ?_)
    · have h2p : ((y > 9223372036854775807)) := by first | (simpa using h2) | (have h2q := h2; simp at h2q; omega) | (have h2q := bx1 h2; simp at h2q; omega)
      refine aw_p 53 (
        .a 3 2 <| .nil _ _) ?_
      refine aw_rt ?_
      refine then_ret ?_
      exact en_ret [.agg #[.int .i64 0, .int .i64 0], .int .i64 2] (show (.tuple #[.agg #[.int .i64 0, .int .i64 0], .int .i64 2] : Value) = (.tuple #[.agg #[.int .i64 (Sp.sgN b x y), .int .i64 (Sp.sgD x y)], .int .i64 (Sp.sgE x y)]) from (congrArg (fun z : List Value => Value.tuple z.toArray) (lcons (congrArg (fun z : List Value => Value.agg z.toArray) (lcons (congrArg (Value.int .i64) (show 0 = (Sp.sgN b x y) from by (first | exact (Sp.sg_no b (by omega)).1 | exact (Sp.sg_no b (by omega)).2.1 | exact (Sp.sg_no b (by omega)).2.2 | (simp only [*]; first | exact (Sp.sg_yes (by omega) (by omega)).1 | exact (Sp.sg_yes (by omega) (by omega)).2.1) | exact (Sp.sg_yes (by omega) (by omega)).2.2.1 | exact (Sp.sg_yes (by omega) (by omega)).2.2.2))) (lcons (congrArg (Value.int .i64) (show 0 = (Sp.sgD x y) from by (first | exact (Sp.sg_no b (by omega)).1 | exact (Sp.sg_no b (by omega)).2.1 | exact (Sp.sg_no b (by omega)).2.2 | (simp only [*]; first | exact (Sp.sg_yes (by omega) (by omega)).1 | exact (Sp.sg_yes (by omega) (by omega)).2.1) | exact (Sp.sg_yes (by omega) (by omega)).2.2.1 | exact (Sp.sg_yes (by omega) (by omega)).2.2.2))) rfl))) (lcons (congrArg (Value.int .i64) (show 2 = (Sp.sgE x y) from by (first | exact (Sp.sg_no b (by omega)).1 | exact (Sp.sg_no b (by omega)).2.1 | exact (Sp.sg_no b (by omega)).2.2 | (simp only [*]; first | exact (Sp.sg_yes (by omega) (by omega)).1 | exact (Sp.sg_yes (by omega) (by omega)).2.1) | exact (Sp.sg_yes (by omega) (by omega)).2.2.1 | exact (Sp.sg_yes (by omega) (by omega)).2.2.2))) rfl))))
    · have h2p : ¬ ((y > 9223372036854775807)) := by first | (simpa using h2) | (have h2q := h2; simp at h2q; omega) | (have h2q := bx2 h2; simp at h2q; omega)
      refine aw_sk ?_
      refine then_normal ?_
      refine aw_sq 14 15 ?_
      refine aw_p 29 (
        .a 1 2 <| .nil _ _) ?_
      refine aw_cd 58 59 b (fun h3 => ?_) (fun h3 => ?_)
      · refine aw_p 117 (
          .a 1 2 <| .p (does_i x (wrap_i64 (by omega) (by omega)) .i64) <| .p (does_i (0 - x) (wrap_i64 (by omega) (by omega)) .i64) <| .a 1 2 <| .p (does_i y (wrap_i64 (by omega) (by omega)) .i64) <| .a 3 2 <| .nil _ _) ?_
        refine aw_rt ?_
        refine then_ret ?_
        exact en_ret [.agg #[.int .i64 (0 - x), .int .i64 y], .int .i64 0] (show (.tuple #[.agg #[.int .i64 (0 - x), .int .i64 y], .int .i64 0] : Value) = (.tuple #[.agg #[.int .i64 (Sp.sgN b x y), .int .i64 (Sp.sgD x y)], .int .i64 (Sp.sgE x y)]) from (congrArg (fun z : List Value => Value.tuple z.toArray) (lcons (congrArg (fun z : List Value => Value.agg z.toArray) (lcons (congrArg (Value.int .i64) (show (0 - x) = (Sp.sgN b x y) from by (first | exact (Sp.sg_no b (by omega)).1 | exact (Sp.sg_no b (by omega)).2.1 | exact (Sp.sg_no b (by omega)).2.2 | (simp only [*]; first | exact (Sp.sg_yes (by omega) (by omega)).1 | exact (Sp.sg_yes (by omega) (by omega)).2.1) | exact (Sp.sg_yes (by omega) (by omega)).2.2.1 | exact (Sp.sg_yes (by omega) (by omega)).2.2.2))) (lcons (congrArg (Value.int .i64) (show y = (Sp.sgD x y) from by (first | exact (Sp.sg_no b (by omega)).1 | exact (Sp.sg_no b (by omega)).2.1 | exact (Sp.sg_no b (by omega)).2.2 | (simp only [*]; first | exact (Sp.sg_yes (by omega) (by omega)).1 | exact (Sp.sg_yes (by omega) (by omega)).2.1) | exact (Sp.sg_yes (by omega) (by omega)).2.2.1 | exact (Sp.sg_yes (by omega) (by omega)).2.2.2))) rfl))) (lcons (congrArg (Value.int .i64) (show 0 = (Sp.sgE x y) from by (first | exact (Sp.sg_no b (by omega)).1 | exact (Sp.sg_no b (by omega)).2.1 | exact (Sp.sg_no b (by omega)).2.2 | (simp only [*]; first | exact (Sp.sg_yes (by omega) (by omega)).1 | exact (Sp.sg_yes (by omega) (by omega)).2.1) | exact (Sp.sg_yes (by omega) (by omega)).2.2.1 | exact (Sp.sg_yes (by omega) (by omega)).2.2.2))) rfl))))
      · refine aw_sk ?_
        refine then_normal ?_
        refine aw_p 31 (
          .a 1 2 <| .p (does_i x (wrap_i64 (by omega) (by omega)) .i64) <| .a 1 2 <| .p (does_i y (wrap_i64 (by omega) (by omega)) .i64) <| .a 3 2 <| .nil _ _) ?_
        refine aw_rt ?_
        exact en_ret [.agg #[.int .i64 x, .int .i64 y], .int .i64 0] (show (.tuple #[.agg #[.int .i64 x, .int .i64 y], .int .i64 0] : Value) = (.tuple #[.agg #[.int .i64 (Sp.sgN b x y), .int .i64 (Sp.sgD x y)], .int .i64 (Sp.sgE x y)]) from (congrArg (fun z : List Value => Value.tuple z.toArray) (lcons (congrArg (fun z : List Value => Value.agg z.toArray) (lcons (congrArg (Value.int .i64) (show x = (Sp.sgN b x y) from by (first | exact (Sp.sg_no b (by omega)).1 | exact (Sp.sg_no b (by omega)).2.1 | exact (Sp.sg_no b (by omega)).2.2 | (simp only [*]; first | exact (Sp.sg_yes (by omega) (by omega)).1 | exact (Sp.sg_yes (by omega) (by omega)).2.1) | exact (Sp.sg_yes (by omega) (by omega)).2.2.1 | exact (Sp.sg_yes (by omega) (by omega)).2.2.2))) (lcons (congrArg (Value.int .i64) (show y = (Sp.sgD x y) from by (first | exact (Sp.sg_no b (by omega)).1 | exact (Sp.sg_no b (by omega)).2.1 | exact (Sp.sg_no b (by omega)).2.2 | (simp only [*]; first | exact (Sp.sg_yes (by omega) (by omega)).1 | exact (Sp.sg_yes (by omega) (by omega)).2.1) | exact (Sp.sg_yes (by omega) (by omega)).2.2.1 | exact (Sp.sg_yes (by omega) (by omega)).2.2.2))) rfl))) (lcons (congrArg (Value.int .i64) (show 0 = (Sp.sgE x y) from by (first | exact (Sp.sg_no b (by omega)).1 | exact (Sp.sg_no b (by omega)).2.1 | exact (Sp.sg_no b (by omega)).2.2 | (simp only [*]; first | exact (Sp.sg_yes (by omega) (by omega)).1 | exact (Sp.sg_yes (by omega) (by omega)).2.1) | exact (Sp.sg_yes (by omega) (by omega)).2.2.1 | exact (Sp.sg_yes (by omega) (by omega)).2.2.2))) rfl))))

theorem fmake_ok (n d : Int) (zln : -9223372036854775808 ≤ n) (zun : n ≤ 9223372036854775807) (zld : -9223372036854775808 ≤ d) (zud : d ≤ 9223372036854775807) :
    AC Tryz.prog 55 0 ([.int .i64 n, .int .i64 d]) [] (.tuple #[.agg #[.int .i64 (Sp.dvn ((n : Int) : Rat) ((d : Int) : Rat)), .int .i64 (Sp.dvd ((n : Int) : Rat) ((d : Int) : Rat))], .int .i64 (Sp.dve ((n : Int) : Rat) ((d : Int) : Rat))]) [] := by
  refine ac_in Tryz.func55 (fun w0 W pin => ?_)
  refine aw_p 3 (
    .a 2 1 <| .nil _ _) ?_
  refine aw_sq 6 7 ?_
  refine aw_p 13 (
    .a 2 2 <| .nil _ _) ?_
  refine aw_cd 26 27 (d == 0) (fun h1 => ?_) (fun h1 => ?_)
  · have h1p : ((d = 0)) := by first | (simpa using h1) | (have h1q := h1; simp at h1q; omega) | (have h1q := bx1 h1; simp at h1q; omega)
    refine aw_p 53 (
      .a 3 2 <| .nil _ _) ?_
    refine aw_rt ?_
    refine then_ret ?_
    exact en_ret [.agg #[.int .i64 0, .int .i64 0], .int .i64 12] (show (.tuple #[.agg #[.int .i64 0, .int .i64 0], .int .i64 12] : Value) = (.tuple #[.agg #[.int .i64 (Sp.dvn ((n : Int) : Rat) ((d : Int) : Rat)), .int .i64 (Sp.dvd ((n : Int) : Rat) ((d : Int) : Rat))], .int .i64 (Sp.dve ((n : Int) : Rat) ((d : Int) : Rat))]) from (congrArg (fun z : List Value => Value.tuple z.toArray) (lcons (congrArg (fun z : List Value => Value.agg z.toArray) (lcons (congrArg (Value.int .i64) (show 0 = (Sp.dvn ((n : Int) : Rat) ((d : Int) : Rat)) from by (first | (rw [show d = 0 by omega]; first | exact (Sp.make_zero _).1 | exact (Sp.make_zero _).2.1 | exact (Sp.make_zero _).2.2) | exact (Sp.make_leaf (n := n) (d := d) (b := true) (by omega) (by simp; omega)).1 | exact (Sp.make_leaf (n := n) (d := d) (b := true) (by omega) (by simp; omega)).2.1 | exact (Sp.make_leaf (n := n) (d := d) (b := true) (by omega) (by simp; omega)).2.2 | exact (Sp.make_leaf (n := n) (d := d) (b := false) (by omega) (by simp; omega)).1 | exact (Sp.make_leaf (n := n) (d := d) (b := false) (by omega) (by simp; omega)).2.1 | exact (Sp.make_leaf (n := n) (d := d) (b := false) (by omega) (by simp; omega)).2.2 | exact (Sp.make_leaf (n := n) (d := d) (b := (n != 0)) (by omega) (by simp; omega)).1 | exact (Sp.make_leaf (n := n) (d := d) (b := (n != 0)) (by omega) (by simp; omega)).2.1 | exact (Sp.make_leaf (n := n) (d := d) (b := (n != 0)) (by omega) (by simp; omega)).2.2))) (lcons (congrArg (Value.int .i64) (show 0 = (Sp.dvd ((n : Int) : Rat) ((d : Int) : Rat)) from by (first | (rw [show d = 0 by omega]; first | exact (Sp.make_zero _).1 | exact (Sp.make_zero _).2.1 | exact (Sp.make_zero _).2.2) | exact (Sp.make_leaf (n := n) (d := d) (b := true) (by omega) (by simp; omega)).1 | exact (Sp.make_leaf (n := n) (d := d) (b := true) (by omega) (by simp; omega)).2.1 | exact (Sp.make_leaf (n := n) (d := d) (b := true) (by omega) (by simp; omega)).2.2 | exact (Sp.make_leaf (n := n) (d := d) (b := false) (by omega) (by simp; omega)).1 | exact (Sp.make_leaf (n := n) (d := d) (b := false) (by omega) (by simp; omega)).2.1 | exact (Sp.make_leaf (n := n) (d := d) (b := false) (by omega) (by simp; omega)).2.2 | exact (Sp.make_leaf (n := n) (d := d) (b := (n != 0)) (by omega) (by simp; omega)).1 | exact (Sp.make_leaf (n := n) (d := d) (b := (n != 0)) (by omega) (by simp; omega)).2.1 | exact (Sp.make_leaf (n := n) (d := d) (b := (n != 0)) (by omega) (by simp; omega)).2.2))) rfl))) (lcons (congrArg (Value.int .i64) (show 12 = (Sp.dve ((n : Int) : Rat) ((d : Int) : Rat)) from by (first | (rw [show d = 0 by omega]; first | exact (Sp.make_zero _).1 | exact (Sp.make_zero _).2.1 | exact (Sp.make_zero _).2.2) | exact (Sp.make_leaf (n := n) (d := d) (b := true) (by omega) (by simp; omega)).1 | exact (Sp.make_leaf (n := n) (d := d) (b := true) (by omega) (by simp; omega)).2.1 | exact (Sp.make_leaf (n := n) (d := d) (b := true) (by omega) (by simp; omega)).2.2 | exact (Sp.make_leaf (n := n) (d := d) (b := false) (by omega) (by simp; omega)).1 | exact (Sp.make_leaf (n := n) (d := d) (b := false) (by omega) (by simp; omega)).2.1 | exact (Sp.make_leaf (n := n) (d := d) (b := false) (by omega) (by simp; omega)).2.2 | exact (Sp.make_leaf (n := n) (d := d) (b := (n != 0)) (by omega) (by simp; omega)).1 | exact (Sp.make_leaf (n := n) (d := d) (b := (n != 0)) (by omega) (by simp; omega)).2.1 | exact (Sp.make_leaf (n := n) (d := d) (b := (n != 0)) (by omega) (by simp; omega)).2.2))) rfl))))
  · have h1p : ¬ ((d = 0)) := by first | (simpa using h1) | (have h1q := h1; simp at h1q; omega) | (have h1q := bx2 h1; simp at h1q; omega)
    have gp := Sp.gcd_posN (n := n) (d := d) (by omega); have b0 := Sp.quo_bd (a := (n.natAbs : Int)) (b := (Int.gcd n d : Int)) (by omega) gp; have b1 := Sp.quo_bd (a := (d.natAbs : Int)) (b := (Int.gcd n d : Int)) (by omega) gp
    refine aw_sk ?_
    refine then_normal ?_
    refine aw_p 15 (
      .a 1 2 <| .p (does_c (fsize_ok n (by omega) (by omega))) <| .a 1 2 <| .p (does_c (fsize_ok d (by omega) (by omega))) <| .a 2 2 <| .nil _ _) ?_
    refine aw_p 31 (
      .a 2 2 <| .p (does_c (fgcd_ok (n.natAbs : Int) (d.natAbs : Int) (by omega) (by omega) (by omega) (by omega))) <| .a 1 2 <| .nil _ _) ?_
    rcases Bool.eq_false_or_eq_true (!((decide (n < 0)) == (decide (d < 0)))) with h2 | h2
    · have h2p : (¬ ((((n < 0)) ↔ ((d < 0))))) := by first | (simpa using h2) | (have h2q := h2; simp at h2q; omega) | (have h2q := bx3 h2; simp at h2q; omega)
      refine aw_d 63 (
        .a 4 2 <| .p (does_b true (h2)) <| .a 6 2 <|
        .p (does_int (n' := ((n.natAbs : Int) / (Int.gcd n d : Int))) (does_quo (t := 51) (t2 := 51) (x := .tmp 28) (y := .tmp 29) (k := .u64) (a := (n.natAbs : Int)) (b := (Int.gcd n d : Int)) (by kernel_rfl) (by kernel_rfl) (by kernel_rfl) ((by have := Sp.gcd_posN (n := n) (d := d) (by omega); omega))) ((show (IntKind.wrap .u64 (Int.tdiv (n.natAbs : Int) (Int.gcd n d : Int))) = ((n.natAbs : Int) / (Int.gcd n d : Int)) from Sp.uquo (by omega) (by omega) (Sp.gcd_posN (by omega))))) <|
        .a 2 2 <|
        .p (does_int (n' := ((d.natAbs : Int) / (Int.gcd n d : Int))) (does_quo (t := 51) (t2 := 51) (x := .tmp 31) (y := .tmp 32) (k := .u64) (a := (d.natAbs : Int)) (b := (Int.gcd n d : Int)) (by kernel_rfl) (by kernel_rfl) (by kernel_rfl) ((by have := Sp.gcd_posN (n := n) (d := d) (by omega); omega))) ((show (IntKind.wrap .u64 (Int.tdiv (d.natAbs : Int) (Int.gcd n d : Int))) = ((d.natAbs : Int) / (Int.gcd n d : Int)) from Sp.uquo (by omega) (by omega) (Sp.gcd_posN (by omega))))) <|
        .p (does_c (fsigned_ok (n != 0) ((n.natAbs : Int) / (Int.gcd n d : Int)) ((d.natAbs : Int) / (Int.gcd n d : Int)) (by omega) (by omega) (by omega) (by omega))) <| .a 4 2 <| .nil _ _) ?_
      refine aw_rt ?_
      exact en_ret [.agg #[.int .i64 (Sp.sgN (n != 0) ((n.natAbs : Int) / (Int.gcd n d : Int)) ((d.natAbs : Int) / (Int.gcd n d : Int))), .int .i64 (Sp.sgD ((n.natAbs : Int) / (Int.gcd n d : Int)) ((d.natAbs : Int) / (Int.gcd n d : Int)))], .int .i64 (Sp.sgE ((n.natAbs : Int) / (Int.gcd n d : Int)) ((d.natAbs : Int) / (Int.gcd n d : Int)))] (show (.tuple #[.agg #[.int .i64 (Sp.sgN (n != 0) ((n.natAbs : Int) / (Int.gcd n d : Int)) ((d.natAbs : Int) / (Int.gcd n d : Int))), .int .i64 (Sp.sgD ((n.natAbs : Int) / (Int.gcd n d : Int)) ((d.natAbs : Int) / (Int.gcd n d : Int)))], .int .i64 (Sp.sgE ((n.natAbs : Int) / (Int.gcd n d : Int)) ((d.natAbs : Int) / (Int.gcd n d : Int)))] : Value) = (.tuple #[.agg #[.int .i64 (Sp.dvn ((n : Int) : Rat) ((d : Int) : Rat)), .int .i64 (Sp.dvd ((n : Int) : Rat) ((d : Int) : Rat))], .int .i64 (Sp.dve ((n : Int) : Rat) ((d : Int) : Rat))]) from (congrArg (fun z : List Value => Value.tuple z.toArray) (lcons (congrArg (fun z : List Value => Value.agg z.toArray) (lcons (congrArg (Value.int .i64) (show (Sp.sgN (n != 0) ((n.natAbs : Int) / (Int.gcd n d : Int)) ((d.natAbs : Int) / (Int.gcd n d : Int))) = (Sp.dvn ((n : Int) : Rat) ((d : Int) : Rat)) from by (first | (rw [show d = 0 by omega]; first | exact (Sp.make_zero _).1 | exact (Sp.make_zero _).2.1 | exact (Sp.make_zero _).2.2) | exact (Sp.make_leaf (n := n) (d := d) (b := true) (by omega) (by simp; omega)).1 | exact (Sp.make_leaf (n := n) (d := d) (b := true) (by omega) (by simp; omega)).2.1 | exact (Sp.make_leaf (n := n) (d := d) (b := true) (by omega) (by simp; omega)).2.2 | exact (Sp.make_leaf (n := n) (d := d) (b := false) (by omega) (by simp; omega)).1 | exact (Sp.make_leaf (n := n) (d := d) (b := false) (by omega) (by simp; omega)).2.1 | exact (Sp.make_leaf (n := n) (d := d) (b := false) (by omega) (by simp; omega)).2.2 | exact (Sp.make_leaf (n := n) (d := d) (b := (n != 0)) (by omega) (by simp; omega)).1 | exact (Sp.make_leaf (n := n) (d := d) (b := (n != 0)) (by omega) (by simp; omega)).2.1 | exact (Sp.make_leaf (n := n) (d := d) (b := (n != 0)) (by omega) (by simp; omega)).2.2))) (lcons (congrArg (Value.int .i64) (show (Sp.sgD ((n.natAbs : Int) / (Int.gcd n d : Int)) ((d.natAbs : Int) / (Int.gcd n d : Int))) = (Sp.dvd ((n : Int) : Rat) ((d : Int) : Rat)) from by (first | (rw [show d = 0 by omega]; first | exact (Sp.make_zero _).1 | exact (Sp.make_zero _).2.1 | exact (Sp.make_zero _).2.2) | exact (Sp.make_leaf (n := n) (d := d) (b := true) (by omega) (by simp; omega)).1 | exact (Sp.make_leaf (n := n) (d := d) (b := true) (by omega) (by simp; omega)).2.1 | exact (Sp.make_leaf (n := n) (d := d) (b := true) (by omega) (by simp; omega)).2.2 | exact (Sp.make_leaf (n := n) (d := d) (b := false) (by omega) (by simp; omega)).1 | exact (Sp.make_leaf (n := n) (d := d) (b := false) (by omega) (by simp; omega)).2.1 | exact (Sp.make_leaf (n := n) (d := d) (b := false) (by omega) (by simp; omega)).2.2 | exact (Sp.make_leaf (n := n) (d := d) (b := (n != 0)) (by omega) (by simp; omega)).1 | exact (Sp.make_leaf (n := n) (d := d) (b := (n != 0)) (by omega) (by simp; omega)).2.1 | exact (Sp.make_leaf (n := n) (d := d) (b := (n != 0)) (by omega) (by simp; omega)).2.2))) rfl))) (lcons (congrArg (Value.int .i64) (show (Sp.sgE ((n.natAbs : Int) / (Int.gcd n d : Int)) ((d.natAbs : Int) / (Int.gcd n d : Int))) = (Sp.dve ((n : Int) : Rat) ((d : Int) : Rat)) from by (first | (rw [show d = 0 by omega]; first | exact (Sp.make_zero _).1 | exact (Sp.make_zero _).2.1 | exact (Sp.make_zero _).2.2) | exact (Sp.make_leaf (n := n) (d := d) (b := true) (by omega) (by simp; omega)).1 | exact (Sp.make_leaf (n := n) (d := d) (b := true) (by omega) (by simp; omega)).2.1 | exact (Sp.make_leaf (n := n) (d := d) (b := true) (by omega) (by simp; omega)).2.2 | exact (Sp.make_leaf (n := n) (d := d) (b := false) (by omega) (by simp; omega)).1 | exact (Sp.make_leaf (n := n) (d := d) (b := false) (by omega) (by simp; omega)).2.1 | exact (Sp.make_leaf (n := n) (d := d) (b := false) (by omega) (by simp; omega)).2.2 | exact (Sp.make_leaf (n := n) (d := d) (b := (n != 0)) (by omega) (by simp; omega)).1 | exact (Sp.make_leaf (n := n) (d := d) (b := (n != 0)) (by omega) (by simp; omega)).2.1 | exact (Sp.make_leaf (n := n) (d := d) (b := (n != 0)) (by omega) (by simp; omega)).2.2))) rfl))))
    · have h2p : ¬ (¬ ((((n < 0)) ↔ ((d < 0))))) := by first | (simpa using h2) | (have h2q := h2; simp at h2q; omega) | (have h2q := bx4 h2; simp at h2q; omega)
      refine aw_d 63 (
        .a 4 2 <| .p (does_b false (h2)) <| .a 6 2 <|
        .p (does_int (n' := ((n.natAbs : Int) / (Int.gcd n d : Int))) (does_quo (t := 51) (t2 := 51) (x := .tmp 28) (y := .tmp 29) (k := .u64) (a := (n.natAbs : Int)) (b := (Int.gcd n d : Int)) (by kernel_rfl) (by kernel_rfl) (by kernel_rfl) ((by have := Sp.gcd_posN (n := n) (d := d) (by omega); omega))) ((show (IntKind.wrap .u64 (Int.tdiv (n.natAbs : Int) (Int.gcd n d : Int))) = ((n.natAbs : Int) / (Int.gcd n d : Int)) from Sp.uquo (by omega) (by omega) (Sp.gcd_posN (by omega))))) <|
        .a 2 2 <|
        .p (does_int (n' := ((d.natAbs : Int) / (Int.gcd n d : Int))) (does_quo (t := 51) (t2 := 51) (x := .tmp 31) (y := .tmp 32) (k := .u64) (a := (d.natAbs : Int)) (b := (Int.gcd n d : Int)) (by kernel_rfl) (by kernel_rfl) (by kernel_rfl) ((by have := Sp.gcd_posN (n := n) (d := d) (by omega); omega))) ((show (IntKind.wrap .u64 (Int.tdiv (d.natAbs : Int) (Int.gcd n d : Int))) = ((d.natAbs : Int) / (Int.gcd n d : Int)) from Sp.uquo (by omega) (by omega) (Sp.gcd_posN (by omega))))) <|
        .p (does_c (fsigned_ok false ((n.natAbs : Int) / (Int.gcd n d : Int)) ((d.natAbs : Int) / (Int.gcd n d : Int)) (by omega) (by omega) (by omega) (by omega))) <| .a 4 2 <| .nil _ _) ?_
      refine aw_rt ?_
      exact en_ret [.agg #[.int .i64 (Sp.sgN false ((n.natAbs : Int) / (Int.gcd n d : Int)) ((d.natAbs : Int) / (Int.gcd n d : Int))), .int .i64 (Sp.sgD ((n.natAbs : Int) / (Int.gcd n d : Int)) ((d.natAbs : Int) / (Int.gcd n d : Int)))], .int .i64 (Sp.sgE ((n.natAbs : Int) / (Int.gcd n d : Int)) ((d.natAbs : Int) / (Int.gcd n d : Int)))] (show (.tuple #[.agg #[.int .i64 (Sp.sgN false ((n.natAbs : Int) / (Int.gcd n d : Int)) ((d.natAbs : Int) / (Int.gcd n d : Int))), .int .i64 (Sp.sgD ((n.natAbs : Int) / (Int.gcd n d : Int)) ((d.natAbs : Int) / (Int.gcd n d : Int)))], .int .i64 (Sp.sgE ((n.natAbs : Int) / (Int.gcd n d : Int)) ((d.natAbs : Int) / (Int.gcd n d : Int)))] : Value) = (.tuple #[.agg #[.int .i64 (Sp.dvn ((n : Int) : Rat) ((d : Int) : Rat)), .int .i64 (Sp.dvd ((n : Int) : Rat) ((d : Int) : Rat))], .int .i64 (Sp.dve ((n : Int) : Rat) ((d : Int) : Rat))]) from (congrArg (fun z : List Value => Value.tuple z.toArray) (lcons (congrArg (fun z : List Value => Value.agg z.toArray) (lcons (congrArg (Value.int .i64) (show (Sp.sgN false ((n.natAbs : Int) / (Int.gcd n d : Int)) ((d.natAbs : Int) / (Int.gcd n d : Int))) = (Sp.dvn ((n : Int) : Rat) ((d : Int) : Rat)) from by (first | (rw [show d = 0 by omega]; first | exact (Sp.make_zero _).1 | exact (Sp.make_zero _).2.1 | exact (Sp.make_zero _).2.2) | exact (Sp.make_leaf (n := n) (d := d) (b := true) (by omega) (by simp; omega)).1 | exact (Sp.make_leaf (n := n) (d := d) (b := true) (by omega) (by simp; omega)).2.1 | exact (Sp.make_leaf (n := n) (d := d) (b := true) (by omega) (by simp; omega)).2.2 | exact (Sp.make_leaf (n := n) (d := d) (b := false) (by omega) (by simp; omega)).1 | exact (Sp.make_leaf (n := n) (d := d) (b := false) (by omega) (by simp; omega)).2.1 | exact (Sp.make_leaf (n := n) (d := d) (b := false) (by omega) (by simp; omega)).2.2 | exact (Sp.make_leaf (n := n) (d := d) (b := (n != 0)) (by omega) (by simp; omega)).1 | exact (Sp.make_leaf (n := n) (d := d) (b := (n != 0)) (by omega) (by simp; omega)).2.1 | exact (Sp.make_leaf (n := n) (d := d) (b := (n != 0)) (by omega) (by simp; omega)).2.2))) (lcons (congrArg (Value.int .i64) (show (Sp.sgD ((n.natAbs : Int) / (Int.gcd n d : Int)) ((d.natAbs : Int) / (Int.gcd n d : Int))) = (Sp.dvd ((n : Int) : Rat) ((d : Int) : Rat)) from by (first | (rw [show d = 0 by omega]; first | exact (Sp.make_zero _).1 | exact (Sp.make_zero _).2.1 | exact (Sp.make_zero _).2.2) | exact (Sp.make_leaf (n := n) (d := d) (b := true) (by omega) (by simp; omega)).1 | exact (Sp.make_leaf (n := n) (d := d) (b := true) (by omega) (by simp; omega)).2.1 | exact (Sp.make_leaf (n := n) (d := d) (b := true) (by omega) (by simp; omega)).2.2 | exact (Sp.make_leaf (n := n) (d := d) (b := false) (by omega) (by simp; omega)).1 | exact (Sp.make_leaf (n := n) (d := d) (b := false) (by omega) (by simp; omega)).2.1 | exact (Sp.make_leaf (n := n) (d := d) (b := false) (by omega) (by simp; omega)).2.2 | exact (Sp.make_leaf (n := n) (d := d) (b := (n != 0)) (by omega) (by simp; omega)).1 | exact (Sp.make_leaf (n := n) (d := d) (b := (n != 0)) (by omega) (by simp; omega)).2.1 | exact (Sp.make_leaf (n := n) (d := d) (b := (n != 0)) (by omega) (by simp; omega)).2.2))) rfl))) (lcons (congrArg (Value.int .i64) (show (Sp.sgE ((n.natAbs : Int) / (Int.gcd n d : Int)) ((d.natAbs : Int) / (Int.gcd n d : Int))) = (Sp.dve ((n : Int) : Rat) ((d : Int) : Rat)) from by (first | (rw [show d = 0 by omega]; first | exact (Sp.make_zero _).1 | exact (Sp.make_zero _).2.1 | exact (Sp.make_zero _).2.2) | exact (Sp.make_leaf (n := n) (d := d) (b := true) (by omega) (by simp; omega)).1 | exact (Sp.make_leaf (n := n) (d := d) (b := true) (by omega) (by simp; omega)).2.1 | exact (Sp.make_leaf (n := n) (d := d) (b := true) (by omega) (by simp; omega)).2.2 | exact (Sp.make_leaf (n := n) (d := d) (b := false) (by omega) (by simp; omega)).1 | exact (Sp.make_leaf (n := n) (d := d) (b := false) (by omega) (by simp; omega)).2.1 | exact (Sp.make_leaf (n := n) (d := d) (b := false) (by omega) (by simp; omega)).2.2 | exact (Sp.make_leaf (n := n) (d := d) (b := (n != 0)) (by omega) (by simp; omega)).1 | exact (Sp.make_leaf (n := n) (d := d) (b := (n != 0)) (by omega) (by simp; omega)).2.1 | exact (Sp.make_leaf (n := n) (d := d) (b := (n != 0)) (by omega) (by simp; omega)).2.2))) rfl))))

theorem fproduct_ok (a b c d : Int) (zla : -9223372036854775808 ≤ a) (zua : a ≤ 9223372036854775807) (zlb : -9223372036854775808 ≤ b) (zub : b ≤ 9223372036854775807) (zlc : -9223372036854775808 ≤ c) (zuc : c ≤ 9223372036854775807) (zld : -9223372036854775808 ≤ d) (zud : d ≤ 9223372036854775807) :
    AC Tryz.prog 85 0 ([.int .i64 a, .int .i64 b, .int .i64 c, .int .i64 d]) [] (.tuple #[.agg #[.int .i64 (Sp.prN (a * b) (c * d)), .int .i64 (Sp.prD (a * b) (c * d))], .int .i64 (Sp.prE (a * b) (c * d))]) [] := by
  have p0 := Sp.mul_bd (a := a) (b := b) (A := 9223372036854775808) (B := 9223372036854775808) (by omega) (by omega) (by omega) (by omega); have p1 := Sp.mul_bd (a := c) (b := d) (A := 9223372036854775808) (B := 9223372036854775808) (by omega) (by omega) (by omega) (by omega)
  refine ac_in Tryz.func85 (fun w0 W pin => ?_)
  refine aw_p 3 (
    .a 2 1 <| .nil _ _) ?_
  refine aw_p 7 (
    .a 2 2 <| .p (does_c (wmul_ok a b (by omega) (by omega) (by omega) (by omega))) <| .p (does_c (wshort_ok (a * b) (by omega) (by omega))) <| .a 5 2 <| .nil _ _) ?_
  refine aw_p 15 (
    .a 2 2 <| .p (does_c (wmul_ok c d (by omega) (by omega) (by omega) (by omega))) <| .p (does_c (wshort_ok (c * d) (by omega) (by omega))) <| .a 5 2 <| .nil _ _) ?_
  refine aw_sq 30 31 ?_
  rcases Bool.eq_false_or_eq_true (!(Sp.in64 (a * b))) with h1 | h1
  · have h1p : ¬ (Sp.in64 (a * b)) = true := by simpa using h1
    refine aw_p 61 (
      .a 1 2 <| .p (does_b true ((Sp.shE_ne _).trans (h1))) <| .a 8 2 <| .nil _ _) ?_
    refine aw_tr 122 ?_
    refine aw_p 245 (
      .a 3 2 <| .nil _ _) ?_
    refine aw_rt ?_
    refine then_ret ?_
    exact en_ret [.agg #[.int .i64 0, .int .i64 0], .int .i64 2] (show (.tuple #[.agg #[.int .i64 0, .int .i64 0], .int .i64 2] : Value) = (.tuple #[.agg #[.int .i64 (Sp.prN (a * b) (c * d)), .int .i64 (Sp.prD (a * b) (c * d))], .int .i64 (Sp.prE (a * b) (c * d))]) from (congrArg (fun z : List Value => Value.tuple z.toArray) (lcons (congrArg (fun z : List Value => Value.agg z.toArray) (lcons (congrArg (Value.int .i64) (show 0 = (Sp.prN (a * b) (c * d)) from by (first | exact (Sp.pr_no (x := a * b) (y := c * d) (by first | exact .inl (by assumption) | exact .inr (.inl (by assumption)) | exact .inr (.inr (by assumption)))).1 | exact (Sp.pr_no (x := a * b) (y := c * d) (by first | exact .inl (by assumption) | exact .inr (.inl (by assumption)) | exact .inr (.inr (by assumption)))).2.1 | exact (Sp.pr_no (x := a * b) (y := c * d) (by first | exact .inl (by assumption) | exact .inr (.inl (by assumption)) | exact .inr (.inr (by assumption)))).2.2 | exact (Sp.pr_yes (x := a * b) (y := c * d) (by assumption) (by assumption) (by assumption)).1 | exact (Sp.pr_yes (x := a * b) (y := c * d) (by assumption) (by assumption) (by assumption)).2.1 | exact (Sp.pr_yes (x := a * b) (y := c * d) (by assumption) (by assumption) (by assumption)).2.2))) (lcons (congrArg (Value.int .i64) (show 0 = (Sp.prD (a * b) (c * d)) from by (first | exact (Sp.pr_no (x := a * b) (y := c * d) (by first | exact .inl (by assumption) | exact .inr (.inl (by assumption)) | exact .inr (.inr (by assumption)))).1 | exact (Sp.pr_no (x := a * b) (y := c * d) (by first | exact .inl (by assumption) | exact .inr (.inl (by assumption)) | exact .inr (.inr (by assumption)))).2.1 | exact (Sp.pr_no (x := a * b) (y := c * d) (by first | exact .inl (by assumption) | exact .inr (.inl (by assumption)) | exact .inr (.inr (by assumption)))).2.2 | exact (Sp.pr_yes (x := a * b) (y := c * d) (by assumption) (by assumption) (by assumption)).1 | exact (Sp.pr_yes (x := a * b) (y := c * d) (by assumption) (by assumption) (by assumption)).2.1 | exact (Sp.pr_yes (x := a * b) (y := c * d) (by assumption) (by assumption) (by assumption)).2.2))) rfl))) (lcons (congrArg (Value.int .i64) (show 2 = (Sp.prE (a * b) (c * d)) from by (first | exact (Sp.pr_no (x := a * b) (y := c * d) (by first | exact .inl (by assumption) | exact .inr (.inl (by assumption)) | exact .inr (.inr (by assumption)))).1 | exact (Sp.pr_no (x := a * b) (y := c * d) (by first | exact .inl (by assumption) | exact .inr (.inl (by assumption)) | exact .inr (.inr (by assumption)))).2.1 | exact (Sp.pr_no (x := a * b) (y := c * d) (by first | exact .inl (by assumption) | exact .inr (.inl (by assumption)) | exact .inr (.inr (by assumption)))).2.2 | exact (Sp.pr_yes (x := a * b) (y := c * d) (by assumption) (by assumption) (by assumption)).1 | exact (Sp.pr_yes (x := a * b) (y := c * d) (by assumption) (by assumption) (by assumption)).2.1 | exact (Sp.pr_yes (x := a * b) (y := c * d) (by assumption) (by assumption) (by assumption)).2.2))) rfl))))
  · have h1p : (Sp.in64 (a * b)) = true := by simpa using h1
    rcases Bool.eq_false_or_eq_true (!(Sp.in64 (c * d))) with h2 | h2
    · have h2p : ¬ (Sp.in64 (c * d)) = true := by simpa using h2
      refine aw_p 61 (
        .a 1 2 <| .p (does_b false ((Sp.shE_ne _).trans (h1))) <| .a 2 2 <| .p (does_b true ((Sp.shE_ne _).trans (h2))) <| .a 5 2 <| .nil _ _) ?_
      refine aw_tr 122 ?_
      refine aw_p 245 (
        .a 3 2 <| .nil _ _) ?_
      refine aw_rt ?_
      refine then_ret ?_
      exact en_ret [.agg #[.int .i64 0, .int .i64 0], .int .i64 2] (show (.tuple #[.agg #[.int .i64 0, .int .i64 0], .int .i64 2] : Value) = (.tuple #[.agg #[.int .i64 (Sp.prN (a * b) (c * d)), .int .i64 (Sp.prD (a * b) (c * d))], .int .i64 (Sp.prE (a * b) (c * d))]) from (congrArg (fun z : List Value => Value.tuple z.toArray) (lcons (congrArg (fun z : List Value => Value.agg z.toArray) (lcons (congrArg (Value.int .i64) (show 0 = (Sp.prN (a * b) (c * d)) from by (first | exact (Sp.pr_no (x := a * b) (y := c * d) (by first | exact .inl (by assumption) | exact .inr (.inl (by assumption)) | exact .inr (.inr (by assumption)))).1 | exact (Sp.pr_no (x := a * b) (y := c * d) (by first | exact .inl (by assumption) | exact .inr (.inl (by assumption)) | exact .inr (.inr (by assumption)))).2.1 | exact (Sp.pr_no (x := a * b) (y := c * d) (by first | exact .inl (by assumption) | exact .inr (.inl (by assumption)) | exact .inr (.inr (by assumption)))).2.2 | exact (Sp.pr_yes (x := a * b) (y := c * d) (by assumption) (by assumption) (by assumption)).1 | exact (Sp.pr_yes (x := a * b) (y := c * d) (by assumption) (by assumption) (by assumption)).2.1 | exact (Sp.pr_yes (x := a * b) (y := c * d) (by assumption) (by assumption) (by assumption)).2.2))) (lcons (congrArg (Value.int .i64) (show 0 = (Sp.prD (a * b) (c * d)) from by (first | exact (Sp.pr_no (x := a * b) (y := c * d) (by first | exact .inl (by assumption) | exact .inr (.inl (by assumption)) | exact .inr (.inr (by assumption)))).1 | exact (Sp.pr_no (x := a * b) (y := c * d) (by first | exact .inl (by assumption) | exact .inr (.inl (by assumption)) | exact .inr (.inr (by assumption)))).2.1 | exact (Sp.pr_no (x := a * b) (y := c * d) (by first | exact .inl (by assumption) | exact .inr (.inl (by assumption)) | exact .inr (.inr (by assumption)))).2.2 | exact (Sp.pr_yes (x := a * b) (y := c * d) (by assumption) (by assumption) (by assumption)).1 | exact (Sp.pr_yes (x := a * b) (y := c * d) (by assumption) (by assumption) (by assumption)).2.1 | exact (Sp.pr_yes (x := a * b) (y := c * d) (by assumption) (by assumption) (by assumption)).2.2))) rfl))) (lcons (congrArg (Value.int .i64) (show 2 = (Sp.prE (a * b) (c * d)) from by (first | exact (Sp.pr_no (x := a * b) (y := c * d) (by first | exact .inl (by assumption) | exact .inr (.inl (by assumption)) | exact .inr (.inr (by assumption)))).1 | exact (Sp.pr_no (x := a * b) (y := c * d) (by first | exact .inl (by assumption) | exact .inr (.inl (by assumption)) | exact .inr (.inr (by assumption)))).2.1 | exact (Sp.pr_no (x := a * b) (y := c * d) (by first | exact .inl (by assumption) | exact .inr (.inl (by assumption)) | exact .inr (.inr (by assumption)))).2.2 | exact (Sp.pr_yes (x := a * b) (y := c * d) (by assumption) (by assumption) (by assumption)).1 | exact (Sp.pr_yes (x := a * b) (y := c * d) (by assumption) (by assumption) (by assumption)).2.1 | exact (Sp.pr_yes (x := a * b) (y := c * d) (by assumption) (by assumption) (by assumption)).2.2))) rfl))))
    · have h2p : (Sp.in64 (c * d)) = true := by simpa using h2
      refine aw_p 61 (
        .a 1 2 <| .p (does_b false ((Sp.shE_ne _).trans (h1))) <| .a 2 2 <| .p (does_b false ((Sp.shE_ne _).trans (h2))) <| .a 3 2 <| .p (does_b (decide (a * b = -9223372036854775808)) (Sp.shN_min _)) <| .a 1 2 <| .nil _ _) ?_
      refine aw_cd 122 123 (decide (a * b = -9223372036854775808)) (fun h3 => ?_) (fun h3 => ?_)
      · have h3p : ((a * b = -9223372036854775808)) := by first | (simpa using h3) | (have h3q := h3; simp at h3q; omega) | (have h3q := bx1 h3; simp at h3q; omega)
        refine aw_p 245 (
          .a 3 2 <| .nil _ _) ?_
        refine aw_rt ?_
        refine then_ret ?_
        exact en_ret [.agg #[.int .i64 0, .int .i64 0], .int .i64 2] (show (.tuple #[.agg #[.int .i64 0, .int .i64 0], .int .i64 2] : Value) = (.tuple #[.agg #[.int .i64 (Sp.prN (a * b) (c * d)), .int .i64 (Sp.prD (a * b) (c * d))], .int .i64 (Sp.prE (a * b) (c * d))]) from (congrArg (fun z : List Value => Value.tuple z.toArray) (lcons (congrArg (fun z : List Value => Value.agg z.toArray) (lcons (congrArg (Value.int .i64) (show 0 = (Sp.prN (a * b) (c * d)) from by (first | exact (Sp.pr_no (x := a * b) (y := c * d) (by first | exact .inl (by assumption) | exact .inr (.inl (by assumption)) | exact .inr (.inr (by assumption)))).1 | exact (Sp.pr_no (x := a * b) (y := c * d) (by first | exact .inl (by assumption) | exact .inr (.inl (by assumption)) | exact .inr (.inr (by assumption)))).2.1 | exact (Sp.pr_no (x := a * b) (y := c * d) (by first | exact .inl (by assumption) | exact .inr (.inl (by assumption)) | exact .inr (.inr (by assumption)))).2.2 | exact (Sp.pr_yes (x := a * b) (y := c * d) (by assumption) (by assumption) (by assumption)).1 | exact (Sp.pr_yes (x := a * b) (y := c * d) (by assumption) (by assumption) (by assumption)).2.1 | exact (Sp.pr_yes (x := a * b) (y := c * d) (by assumption) (by assumption) (by assumption)).2.2))) (lcons (congrArg (Value.int .i64) (show 0 = (Sp.prD (a * b) (c * d)) from by (first | exact (Sp.pr_no (x := a * b) (y := c * d) (by first | exact .inl (by assumption) | exact .inr (.inl (by assumption)) | exact .inr (.inr (by assumption)))).1 | exact (Sp.pr_no (x := a * b) (y := c * d) (by first | exact .inl (by assumption) | exact .inr (.inl (by assumption)) | exact .inr (.inr (by assumption)))).2.1 | exact (Sp.pr_no (x := a * b) (y := c * d) (by first | exact .inl (by assumption) | exact .inr (.inl (by assumption)) | exact .inr (.inr (by assumption)))).2.2 | exact (Sp.pr_yes (x := a * b) (y := c * d) (by assumption) (by assumption) (by assumption)).1 | exact (Sp.pr_yes (x := a * b) (y := c * d) (by assumption) (by assumption) (by assumption)).2.1 | exact (Sp.pr_yes (x := a * b) (y := c * d) (by assumption) (by assumption) (by assumption)).2.2))) rfl))) (lcons (congrArg (Value.int .i64) (show 2 = (Sp.prE (a * b) (c * d)) from by (first | exact (Sp.pr_no (x := a * b) (y := c * d) (by first | exact .inl (by assumption) | exact .inr (.inl (by assumption)) | exact .inr (.inr (by assumption)))).1 | exact (Sp.pr_no (x := a * b) (y := c * d) (by first | exact .inl (by assumption) | exact .inr (.inl (by assumption)) | exact .inr (.inr (by assumption)))).2.1 | exact (Sp.pr_no (x := a * b) (y := c * d) (by first | exact .inl (by assumption) | exact .inr (.inl (by assumption)) | exact .inr (.inr (by assumption)))).2.2 | exact (Sp.pr_yes (x := a * b) (y := c * d) (by assumption) (by assumption) (by assumption)).1 | exact (Sp.pr_yes (x := a * b) (y := c * d) (by assumption) (by assumption) (by assumption)).2.1 | exact (Sp.pr_yes (x := a * b) (y := c * d) (by assumption) (by assumption) (by assumption)).2.2))) rfl))))
      · have h3p : ¬ ((a * b = -9223372036854775808)) := by first | (simpa using h3) | (have h3q := h3; simp at h3q; omega) | (have h3q := bx2 h3; simp at h3q; omega)
        refine aw_sk ?_
        refine then_normal ?_
        refine aw_p 63 (
          .a 5 2 <| .nil _ _) ?_
        refine aw_rt ?_
        exact en_ret [.agg #[.int .i64 (Sp.shN (a * b)), .int .i64 (Sp.shN (c * d))], .int .i64 0] (show (.tuple #[.agg #[.int .i64 (Sp.shN (a * b)), .int .i64 (Sp.shN (c * d))], .int .i64 0] : Value) = (.tuple #[.agg #[.int .i64 (Sp.prN (a * b) (c * d)), .int .i64 (Sp.prD (a * b) (c * d))], .int .i64 (Sp.prE (a * b) (c * d))]) from (congrArg (fun z : List Value => Value.tuple z.toArray) (lcons (congrArg (fun z : List Value => Value.agg z.toArray) (lcons (congrArg (Value.int .i64) (show (Sp.shN (a * b)) = (Sp.prN (a * b) (c * d)) from by (first | exact (Sp.pr_no (x := a * b) (y := c * d) (by first | exact .inl (by assumption) | exact .inr (.inl (by assumption)) | exact .inr (.inr (by assumption)))).1 | exact (Sp.pr_no (x := a * b) (y := c * d) (by first | exact .inl (by assumption) | exact .inr (.inl (by assumption)) | exact .inr (.inr (by assumption)))).2.1 | exact (Sp.pr_no (x := a * b) (y := c * d) (by first | exact .inl (by assumption) | exact .inr (.inl (by assumption)) | exact .inr (.inr (by assumption)))).2.2 | exact (Sp.pr_yes (x := a * b) (y := c * d) (by assumption) (by assumption) (by assumption)).1 | exact (Sp.pr_yes (x := a * b) (y := c * d) (by assumption) (by assumption) (by assumption)).2.1 | exact (Sp.pr_yes (x := a * b) (y := c * d) (by assumption) (by assumption) (by assumption)).2.2))) (lcons (congrArg (Value.int .i64) (show (Sp.shN (c * d)) = (Sp.prD (a * b) (c * d)) from by (first | exact (Sp.pr_no (x := a * b) (y := c * d) (by first | exact .inl (by assumption) | exact .inr (.inl (by assumption)) | exact .inr (.inr (by assumption)))).1 | exact (Sp.pr_no (x := a * b) (y := c * d) (by first | exact .inl (by assumption) | exact .inr (.inl (by assumption)) | exact .inr (.inr (by assumption)))).2.1 | exact (Sp.pr_no (x := a * b) (y := c * d) (by first | exact .inl (by assumption) | exact .inr (.inl (by assumption)) | exact .inr (.inr (by assumption)))).2.2 | exact (Sp.pr_yes (x := a * b) (y := c * d) (by assumption) (by assumption) (by assumption)).1 | exact (Sp.pr_yes (x := a * b) (y := c * d) (by assumption) (by assumption) (by assumption)).2.1 | exact (Sp.pr_yes (x := a * b) (y := c * d) (by assumption) (by assumption) (by assumption)).2.2))) rfl))) (lcons (congrArg (Value.int .i64) (show 0 = (Sp.prE (a * b) (c * d)) from by (first | exact (Sp.pr_no (x := a * b) (y := c * d) (by first | exact .inl (by assumption) | exact .inr (.inl (by assumption)) | exact .inr (.inr (by assumption)))).1 | exact (Sp.pr_no (x := a * b) (y := c * d) (by first | exact .inl (by assumption) | exact .inr (.inl (by assumption)) | exact .inr (.inr (by assumption)))).2.1 | exact (Sp.pr_no (x := a * b) (y := c * d) (by first | exact .inl (by assumption) | exact .inr (.inl (by assumption)) | exact .inr (.inr (by assumption)))).2.2 | exact (Sp.pr_yes (x := a * b) (y := c * d) (by assumption) (by assumption) (by assumption)).1 | exact (Sp.pr_yes (x := a * b) (y := c * d) (by assumption) (by assumption) (by assumption)).2.1 | exact (Sp.pr_yes (x := a * b) (y := c * d) (by assumption) (by assumption) (by assumption)).2.2))) rfl))))

theorem fmul_ok (n1 d1 : Int) (zln1 : -9223372036854775808 ≤ n1) (zun1 : n1 ≤ 9223372036854775807) (zld1 : -9223372036854775808 ≤ d1) (zud1 : d1 ≤ 9223372036854775807) (n2 d2 : Int) (zln2 : -9223372036854775808 ≤ n2) (zun2 : n2 ≤ 9223372036854775807) (zld2 : -9223372036854775808 ≤ d2) (zud2 : d2 ≤ 9223372036854775807) :
    AC Tryz.prog 56 0 ([.agg #[.int .i64 n1, .int .i64 d1], .agg #[.int .i64 n2, .int .i64 d2]]) [] (.tuple #[.agg #[.int .i64 (Sp.qn (Sp.rv n1 d1 * Sp.rv n2 d2)), .int .i64 (Sp.qd (Sp.rv n1 d1 * Sp.rv n2 d2))], .int .i64 (Sp.qe (Sp.rv n1 d1 * Sp.rv n2 d2))]) [] := by
  have fn1 := Sp.fn_bd (d := d1) zln1 zun1; have fd1 := Sp.fd_bd (n := n1) zud1; have fn2 := Sp.fn_bd (d := d2) zln2 zun2; have fd2 := Sp.fd_bd (n := n2) zud2; have gp1 := Sp.gcd_pos (n := (Sp.fn n1 d1)) (d := (Sp.fd n2 d2)) (by omega); have gl1 := Sp.gcd_le (n := (Sp.fn n1 d1)) (d := (Sp.fd n2 d2)) (by omega); have gp2 := Sp.gcd_pos (n := (Sp.fn n2 d2)) (d := (Sp.fd n1 d1)) (by omega); have gl2 := Sp.gcd_le (n := (Sp.fn n2 d2)) (d := (Sp.fd n1 d1)) (by omega); have e0 := Sp.ediv_bd (x := (Sp.fn n1 d1)) (y := (Int.gcd (Sp.fn n1 d1) (Sp.fd n2 d2) : Int)) (M := 9223372036854775807) (by omega) (by omega) (by omega); have e1 := Sp.ediv_bd (x := (Sp.fn n2 d2)) (y := (Int.gcd (Sp.fn n2 d2) (Sp.fd n1 d1) : Int)) (M := 9223372036854775807) (by omega) (by omega) (by omega); have e2 := Sp.ediv_bd (x := (Sp.fd n1 d1)) (y := (Int.gcd (Sp.fn n2 d2) (Sp.fd n1 d1) : Int)) (M := 9223372036854775807) (by omega) (by omega) (by omega); have e3 := Sp.ediv_bd (x := (Sp.fd n2 d2)) (y := (Int.gcd (Sp.fn n1 d1) (Sp.fd n2 d2) : Int)) (M := 9223372036854775807) (by omega) (by omega) (by omega)
  refine ac_in Tryz.func56 (fun w0 W pin => ?_)
  refine aw_p 3 (
    .a 4 1 <| .nil _ _) ?_
  refine aw_d 7 (
    .a 1 4 <| .p (does_c (ffit_ok n1 d1 (by omega) (by omega) (by omega) (by omega))) <| .a 1 4 <| .p (does_c (ffit_ok n2 d2 (by omega) (by omega) (by omega) (by omega))) <| .a 2 4 <| .nil _ _) ?_
  refine aw_d 15 (
    .a 2 4 <| .p (does_c (fsize_ok (Sp.fn n1 d1) (by omega) (by omega))) <| .a 2 4 <| .p (does_c (fsize_ok (Sp.fd n2 d2) (by omega) (by omega))) <| .p (does_c (fgcd_ok ((Sp.fn n1 d1).natAbs : Int) ((Sp.fd n2 d2).natAbs : Int) (by omega) (by omega) (by omega) (by omega))) <|
    .p (does_i (Int.gcd (Sp.fn n1 d1) (Sp.fd n2 d2) : Int) (wrap_i64 (by omega) (by omega)) .i64) <| .a 2 4 <| .p (does_c (fsize_ok (Sp.fn n2 d2) (by omega) (by omega))) <| .a 2 4 <| .p (does_c (fsize_ok (Sp.fd n1 d1) (by omega) (by omega))) <|
    .p (does_c (fgcd_ok ((Sp.fn n2 d2).natAbs : Int) ((Sp.fd n1 d1).natAbs : Int) (by omega) (by omega) (by omega) (by omega))) <| .p (does_i (Int.gcd (Sp.fn n2 d2) (Sp.fd n1 d1) : Int) (wrap_i64 (by omega) (by omega)) .i64) <| .a 2 4 <| .nil _ _) ?_
  refine aw_d 31 (
    .a 3 4 <|
    .p (does_int (n' := (Sp.fn n1 d1) / (Int.gcd (Sp.fn n1 d1) (Sp.fd n2 d2) : Int)) (does_quo (t := 3) (t2 := 3) (x := .tmp 29) (y := .tmp 30) (k := .i64) (a := (Sp.fn n1 d1)) (b := (Int.gcd (Sp.fn n1 d1) (Sp.fd n2 d2) : Int)) (by kernel_rfl) (by kernel_rfl) (by kernel_rfl) (by omega)) ((show (IntKind.wrap .i64 (Int.tdiv (Sp.fn n1 d1) (Int.gcd (Sp.fn n1 d1) (Sp.fd n2 d2) : Int))) = ((Sp.fn n1 d1) / (Int.gcd (Sp.fn n1 d1) (Sp.fd n2 d2) : Int)) from Sp.quo_dvd (by omega) (Int.gcd_dvd_left _ _) (by omega) (by omega)))) <|
    .a 3 4 <|
    .p (does_int (n' := (Sp.fn n2 d2) / (Int.gcd (Sp.fn n2 d2) (Sp.fd n1 d1) : Int)) (does_quo (t := 3) (t2 := 3) (x := .tmp 33) (y := .tmp 34) (k := .i64) (a := (Sp.fn n2 d2)) (b := (Int.gcd (Sp.fn n2 d2) (Sp.fd n1 d1) : Int)) (by kernel_rfl) (by kernel_rfl) (by kernel_rfl) (by omega)) ((show (IntKind.wrap .i64 (Int.tdiv (Sp.fn n2 d2) (Int.gcd (Sp.fn n2 d2) (Sp.fd n1 d1) : Int))) = ((Sp.fn n2 d2) / (Int.gcd (Sp.fn n2 d2) (Sp.fd n1 d1) : Int)) from Sp.quo_dvd (by omega) (Int.gcd_dvd_left _ _) (by omega) (by omega)))) <|
    .a 3 4 <|
    .p (does_int (n' := (Sp.fd n1 d1) / (Int.gcd (Sp.fn n2 d2) (Sp.fd n1 d1) : Int)) (does_quo (t := 3) (t2 := 3) (x := .tmp 37) (y := .tmp 38) (k := .i64) (a := (Sp.fd n1 d1)) (b := (Int.gcd (Sp.fn n2 d2) (Sp.fd n1 d1) : Int)) (by kernel_rfl) (by kernel_rfl) (by kernel_rfl) (by omega)) ((show (IntKind.wrap .i64 (Int.tdiv (Sp.fd n1 d1) (Int.gcd (Sp.fn n2 d2) (Sp.fd n1 d1) : Int))) = ((Sp.fd n1 d1) / (Int.gcd (Sp.fn n2 d2) (Sp.fd n1 d1) : Int)) from Sp.quo_dvd (by omega) (Int.gcd_dvd_right _ _) (by omega) (by omega)))) <|
    .a 3 4 <|
    .p (does_int (n' := (Sp.fd n2 d2) / (Int.gcd (Sp.fn n1 d1) (Sp.fd n2 d2) : Int)) (does_quo (t := 3) (t2 := 3) (x := .tmp 41) (y := .tmp 42) (k := .i64) (a := (Sp.fd n2 d2)) (b := (Int.gcd (Sp.fn n1 d1) (Sp.fd n2 d2) : Int)) (by kernel_rfl) (by kernel_rfl) (by kernel_rfl) (by omega)) ((show (IntKind.wrap .i64 (Int.tdiv (Sp.fd n2 d2) (Int.gcd (Sp.fn n1 d1) (Sp.fd n2 d2) : Int))) = ((Sp.fd n2 d2) / (Int.gcd (Sp.fn n1 d1) (Sp.fd n2 d2) : Int)) from Sp.quo_dvd (by omega) (Int.gcd_dvd_right _ _) (by omega) (by omega)))) <|
    .p (does_c (fproduct_ok ((Sp.fn n1 d1) / (Int.gcd (Sp.fn n1 d1) (Sp.fd n2 d2) : Int)) ((Sp.fn n2 d2) / (Int.gcd (Sp.fn n2 d2) (Sp.fd n1 d1) : Int)) ((Sp.fd n1 d1) / (Int.gcd (Sp.fn n2 d2) (Sp.fd n1 d1) : Int)) ((Sp.fd n2 d2) / (Int.gcd (Sp.fn n1 d1) (Sp.fd n2 d2) : Int)) (by omega) (by omega) (by omega) (by omega) (by omega) (by omega) (by omega) (by omega))) <|
    .a 4 4 <| .nil _ _) ?_
  refine aw_rt ?_
  exact en_ret [.agg #[.int .i64 (Sp.prN (((Sp.fn n1 d1) / (Int.gcd (Sp.fn n1 d1) (Sp.fd n2 d2) : Int)) * ((Sp.fn n2 d2) / (Int.gcd (Sp.fn n2 d2) (Sp.fd n1 d1) : Int))) (((Sp.fd n1 d1) / (Int.gcd (Sp.fn n2 d2) (Sp.fd n1 d1) : Int)) * ((Sp.fd n2 d2) / (Int.gcd (Sp.fn n1 d1) (Sp.fd n2 d2) : Int)))), .int .i64 (Sp.prD (((Sp.fn n1 d1) / (Int.gcd (Sp.fn n1 d1) (Sp.fd n2 d2) : Int)) * ((Sp.fn n2 d2) / (Int.gcd (Sp.fn n2 d2) (Sp.fd n1 d1) : Int))) (((Sp.fd n1 d1) / (Int.gcd (Sp.fn n2 d2) (Sp.fd n1 d1) : Int)) * ((Sp.fd n2 d2) / (Int.gcd (Sp.fn n1 d1) (Sp.fd n2 d2) : Int))))], .int .i64 (Sp.prE (((Sp.fn n1 d1) / (Int.gcd (Sp.fn n1 d1) (Sp.fd n2 d2) : Int)) * ((Sp.fn n2 d2) / (Int.gcd (Sp.fn n2 d2) (Sp.fd n1 d1) : Int))) (((Sp.fd n1 d1) / (Int.gcd (Sp.fn n2 d2) (Sp.fd n1 d1) : Int)) * ((Sp.fd n2 d2) / (Int.gcd (Sp.fn n1 d1) (Sp.fd n2 d2) : Int))))] (show (.tuple #[.agg #[.int .i64 (Sp.prN (((Sp.fn n1 d1) / (Int.gcd (Sp.fn n1 d1) (Sp.fd n2 d2) : Int)) * ((Sp.fn n2 d2) / (Int.gcd (Sp.fn n2 d2) (Sp.fd n1 d1) : Int))) (((Sp.fd n1 d1) / (Int.gcd (Sp.fn n2 d2) (Sp.fd n1 d1) : Int)) * ((Sp.fd n2 d2) / (Int.gcd (Sp.fn n1 d1) (Sp.fd n2 d2) : Int)))), .int .i64 (Sp.prD (((Sp.fn n1 d1) / (Int.gcd (Sp.fn n1 d1) (Sp.fd n2 d2) : Int)) * ((Sp.fn n2 d2) / (Int.gcd (Sp.fn n2 d2) (Sp.fd n1 d1) : Int))) (((Sp.fd n1 d1) / (Int.gcd (Sp.fn n2 d2) (Sp.fd n1 d1) : Int)) * ((Sp.fd n2 d2) / (Int.gcd (Sp.fn n1 d1) (Sp.fd n2 d2) : Int))))], .int .i64 (Sp.prE (((Sp.fn n1 d1) / (Int.gcd (Sp.fn n1 d1) (Sp.fd n2 d2) : Int)) * ((Sp.fn n2 d2) / (Int.gcd (Sp.fn n2 d2) (Sp.fd n1 d1) : Int))) (((Sp.fd n1 d1) / (Int.gcd (Sp.fn n2 d2) (Sp.fd n1 d1) : Int)) * ((Sp.fd n2 d2) / (Int.gcd (Sp.fn n1 d1) (Sp.fd n2 d2) : Int))))] : Value) = (.tuple #[.agg #[.int .i64 (Sp.qn (Sp.rv n1 d1 * Sp.rv n2 d2)), .int .i64 (Sp.qd (Sp.rv n1 d1 * Sp.rv n2 d2))], .int .i64 (Sp.qe (Sp.rv n1 d1 * Sp.rv n2 d2))]) from (congrArg (fun z : List Value => Value.tuple z.toArray) (lcons (congrArg (fun z : List Value => Value.agg z.toArray) (lcons (congrArg (Value.int .i64) (show (Sp.prN (((Sp.fn n1 d1) / (Int.gcd (Sp.fn n1 d1) (Sp.fd n2 d2) : Int)) * ((Sp.fn n2 d2) / (Int.gcd (Sp.fn n2 d2) (Sp.fd n1 d1) : Int))) (((Sp.fd n1 d1) / (Int.gcd (Sp.fn n2 d2) (Sp.fd n1 d1) : Int)) * ((Sp.fd n2 d2) / (Int.gcd (Sp.fn n1 d1) (Sp.fd n2 d2) : Int)))) = (Sp.qn (Sp.rv n1 d1 * Sp.rv n2 d2)) from by (first | exact (Sp.mul_leaf n1 d1 n2 d2).1 | exact (Sp.mul_leaf n1 d1 n2 d2).2.1 | exact (Sp.mul_leaf n1 d1 n2 d2).2.2))) (lcons (congrArg (Value.int .i64) (show (Sp.prD (((Sp.fn n1 d1) / (Int.gcd (Sp.fn n1 d1) (Sp.fd n2 d2) : Int)) * ((Sp.fn n2 d2) / (Int.gcd (Sp.fn n2 d2) (Sp.fd n1 d1) : Int))) (((Sp.fd n1 d1) / (Int.gcd (Sp.fn n2 d2) (Sp.fd n1 d1) : Int)) * ((Sp.fd n2 d2) / (Int.gcd (Sp.fn n1 d1) (Sp.fd n2 d2) : Int)))) = (Sp.qd (Sp.rv n1 d1 * Sp.rv n2 d2)) from by (first | exact (Sp.mul_leaf n1 d1 n2 d2).1 | exact (Sp.mul_leaf n1 d1 n2 d2).2.1 | exact (Sp.mul_leaf n1 d1 n2 d2).2.2))) rfl))) (lcons (congrArg (Value.int .i64) (show (Sp.prE (((Sp.fn n1 d1) / (Int.gcd (Sp.fn n1 d1) (Sp.fd n2 d2) : Int)) * ((Sp.fn n2 d2) / (Int.gcd (Sp.fn n2 d2) (Sp.fd n1 d1) : Int))) (((Sp.fd n1 d1) / (Int.gcd (Sp.fn n2 d2) (Sp.fd n1 d1) : Int)) * ((Sp.fd n2 d2) / (Int.gcd (Sp.fn n1 d1) (Sp.fd n2 d2) : Int)))) = (Sp.qe (Sp.rv n1 d1 * Sp.rv n2 d2)) from by (first | exact (Sp.mul_leaf n1 d1 n2 d2).1 | exact (Sp.mul_leaf n1 d1 n2 d2).2.1 | exact (Sp.mul_leaf n1 d1 n2 d2).2.2))) rfl))))

theorem fdiv_ok (n1 d1 : Int) (zln1 : -9223372036854775808 ≤ n1) (zun1 : n1 ≤ 9223372036854775807) (zld1 : -9223372036854775808 ≤ d1) (zud1 : d1 ≤ 9223372036854775807) (n2 d2 : Int) (zln2 : -9223372036854775808 ≤ n2) (zun2 : n2 ≤ 9223372036854775807) (zld2 : -9223372036854775808 ≤ d2) (zud2 : d2 ≤ 9223372036854775807) :
    AC Tryz.prog 62 0 ([.agg #[.int .i64 n1, .int .i64 d1], .agg #[.int .i64 n2, .int .i64 d2]]) [] (.tuple #[.agg #[.int .i64 (Sp.dvn (Sp.rv n1 d1) (Sp.rv n2 d2)), .int .i64 (Sp.dvd (Sp.rv n1 d1) (Sp.rv n2 d2))], .int .i64 (Sp.dve (Sp.rv n1 d1) (Sp.rv n2 d2))]) [] := by
  have fn2 := Sp.fn_bd (d := d2) zln2 zun2; have fd2 := Sp.fd_bd (n := n2) zud2
  refine ac_in Tryz.func62 (fun w0 W pin => ?_)
  refine aw_p 3 (
    .a 4 1 <| .nil _ _) ?_
  refine aw_p 7 (
    .a 1 4 <| .p (does_c (ffit_ok n2 d2 (by omega) (by omega) (by omega) (by omega))) <| .a 1 4 <| .nil _ _) ?_
  refine aw_sq 14 15 ?_
  refine aw_bl 0 29 ?_
  refine aw_p 59 (
    .a 4 4 <| .nil _ _) ?_
  refine aw_cd 118 119 ((Sp.fn n2 d2) == 0) (fun h1 => ?_) (fun h1 => ?_)
  · have h1p : (((Sp.fn n2 d2) = 0)) := by first | (simpa using h1) | (have h1q := h1; simp at h1q; omega) | (have h1q := bx1 h1; simp at h1q; omega)
    refine aw_p 237 (
      .a 3 4 <| .nil _ _) ?_
    refine aw_rt ?_
    refine block_ret ?_
    refine then_ret ?_
    exact en_ret [.agg #[.int .i64 0, .int .i64 0], .int .i64 12] (show (.tuple #[.agg #[.int .i64 0, .int .i64 0], .int .i64 12] : Value) = (.tuple #[.agg #[.int .i64 (Sp.dvn (Sp.rv n1 d1) (Sp.rv n2 d2)), .int .i64 (Sp.dvd (Sp.rv n1 d1) (Sp.rv n2 d2))], .int .i64 (Sp.dve (Sp.rv n1 d1) (Sp.rv n2 d2))]) from (congrArg (fun z : List Value => Value.tuple z.toArray) (lcons (congrArg (fun z : List Value => Value.agg z.toArray) (lcons (congrArg (Value.int .i64) (show 0 = (Sp.dvn (Sp.rv n1 d1) (Sp.rv n2 d2)) from by (first | exact (Sp.div_zero' (a := Sp.rv n1 d1) (c := n2) (d := d2) (by omega)).1 | exact (Sp.div_zero' (a := Sp.rv n1 d1) (c := n2) (d := d2) (by omega)).2.1 | exact (Sp.div_zero' (a := Sp.rv n1 d1) (c := n2) (d := d2) (by omega)).2.2 | (rw [Int.zero_sub, Int.zero_sub, Sp.inv_neg' (by omega) (by omega)]; first | exact (Sp.div_leaf (a := Sp.rv n1 d1) (c := n2) (d := d2) (by omega)).1 | exact (Sp.div_leaf (a := Sp.rv n1 d1) (c := n2) (d := d2) (by omega)).2.1 | exact (Sp.div_leaf (a := Sp.rv n1 d1) (c := n2) (d := d2) (by omega)).2.2) | (rw [Sp.inv_pos' (by omega) (by omega)]; first | exact (Sp.div_leaf (a := Sp.rv n1 d1) (c := n2) (d := d2) (by omega)).1 | exact (Sp.div_leaf (a := Sp.rv n1 d1) (c := n2) (d := d2) (by omega)).2.1 | exact (Sp.div_leaf (a := Sp.rv n1 d1) (c := n2) (d := d2) (by omega)).2.2)))) (lcons (congrArg (Value.int .i64) (show 0 = (Sp.dvd (Sp.rv n1 d1) (Sp.rv n2 d2)) from by (first | exact (Sp.div_zero' (a := Sp.rv n1 d1) (c := n2) (d := d2) (by omega)).1 | exact (Sp.div_zero' (a := Sp.rv n1 d1) (c := n2) (d := d2) (by omega)).2.1 | exact (Sp.div_zero' (a := Sp.rv n1 d1) (c := n2) (d := d2) (by omega)).2.2 | (rw [Int.zero_sub, Int.zero_sub, Sp.inv_neg' (by omega) (by omega)]; first | exact (Sp.div_leaf (a := Sp.rv n1 d1) (c := n2) (d := d2) (by omega)).1 | exact (Sp.div_leaf (a := Sp.rv n1 d1) (c := n2) (d := d2) (by omega)).2.1 | exact (Sp.div_leaf (a := Sp.rv n1 d1) (c := n2) (d := d2) (by omega)).2.2) | (rw [Sp.inv_pos' (by omega) (by omega)]; first | exact (Sp.div_leaf (a := Sp.rv n1 d1) (c := n2) (d := d2) (by omega)).1 | exact (Sp.div_leaf (a := Sp.rv n1 d1) (c := n2) (d := d2) (by omega)).2.1 | exact (Sp.div_leaf (a := Sp.rv n1 d1) (c := n2) (d := d2) (by omega)).2.2)))) rfl))) (lcons (congrArg (Value.int .i64) (show 12 = (Sp.dve (Sp.rv n1 d1) (Sp.rv n2 d2)) from by (first | exact (Sp.div_zero' (a := Sp.rv n1 d1) (c := n2) (d := d2) (by omega)).1 | exact (Sp.div_zero' (a := Sp.rv n1 d1) (c := n2) (d := d2) (by omega)).2.1 | exact (Sp.div_zero' (a := Sp.rv n1 d1) (c := n2) (d := d2) (by omega)).2.2 | (rw [Int.zero_sub, Int.zero_sub, Sp.inv_neg' (by omega) (by omega)]; first | exact (Sp.div_leaf (a := Sp.rv n1 d1) (c := n2) (d := d2) (by omega)).1 | exact (Sp.div_leaf (a := Sp.rv n1 d1) (c := n2) (d := d2) (by omega)).2.1 | exact (Sp.div_leaf (a := Sp.rv n1 d1) (c := n2) (d := d2) (by omega)).2.2) | (rw [Sp.inv_pos' (by omega) (by omega)]; first | exact (Sp.div_leaf (a := Sp.rv n1 d1) (c := n2) (d := d2) (by omega)).1 | exact (Sp.div_leaf (a := Sp.rv n1 d1) (c := n2) (d := d2) (by omega)).2.1 | exact (Sp.div_leaf (a := Sp.rv n1 d1) (c := n2) (d := d2) (by omega)).2.2)))) rfl))))
  · have h1p : ¬ (((Sp.fn n2 d2) = 0)) := by first | (simpa using h1) | (have h1q := h1; simp at h1q; omega) | (have h1q := bx2 h1; simp at h1q; omega)
    refine aw_p 239 (
      .a 4 4 <| .nil _ _) ?_
    refine aw_cd 478 479 (decide ((Sp.fn n2 d2) < 0)) (fun h2 => ?_) (fun h2 => ?_)
    · have h2p : (((Sp.fn n2 d2) < 0)) := by first | (simpa using h2) | (have h2q := h2; simp at h2q; omega) | (have h2q := bx1 h2; simp at h2q; omega)
      refine aw_p 957 (
        .a 3 4 <| .p (does_i (0 - (Sp.fd n2 d2)) (wrap_i64 (by omega) (by omega)) .i64) <| .a 2 4 <| .p (does_i (0 - (Sp.fn n2 d2)) (wrap_i64 (by omega) (by omega)) .i64) <| .a 1 4 <|
        .p (does_c (fmul_ok n1 d1 (by omega) (by omega) (by omega) (by omega) (0 - (Sp.fd n2 d2)) (0 - (Sp.fn n2 d2)) (by omega) (by omega) (by omega) (by omega))) <| .a 4 4 <| .nil _ _) ?_
      refine aw_rt ?_
      refine block_ret ?_
      refine then_ret ?_
      exact en_ret [.agg #[.int .i64 (Sp.qn ((Sp.rv n1 d1) * (Sp.rv (0 - (Sp.fd n2 d2)) (0 - (Sp.fn n2 d2))))), .int .i64 (Sp.qd ((Sp.rv n1 d1) * (Sp.rv (0 - (Sp.fd n2 d2)) (0 - (Sp.fn n2 d2)))))], .int .i64 (Sp.qe ((Sp.rv n1 d1) * (Sp.rv (0 - (Sp.fd n2 d2)) (0 - (Sp.fn n2 d2)))))] (show (.tuple #[.agg #[.int .i64 (Sp.qn ((Sp.rv n1 d1) * (Sp.rv (0 - (Sp.fd n2 d2)) (0 - (Sp.fn n2 d2))))), .int .i64 (Sp.qd ((Sp.rv n1 d1) * (Sp.rv (0 - (Sp.fd n2 d2)) (0 - (Sp.fn n2 d2)))))], .int .i64 (Sp.qe ((Sp.rv n1 d1) * (Sp.rv (0 - (Sp.fd n2 d2)) (0 - (Sp.fn n2 d2)))))] : Value) = (.tuple #[.agg #[.int .i64 (Sp.dvn (Sp.rv n1 d1) (Sp.rv n2 d2)), .int .i64 (Sp.dvd (Sp.rv n1 d1) (Sp.rv n2 d2))], .int .i64 (Sp.dve (Sp.rv n1 d1) (Sp.rv n2 d2))]) from (congrArg (fun z : List Value => Value.tuple z.toArray) (lcons (congrArg (fun z : List Value => Value.agg z.toArray) (lcons (congrArg (Value.int .i64) (show (Sp.qn ((Sp.rv n1 d1) * (Sp.rv (0 - (Sp.fd n2 d2)) (0 - (Sp.fn n2 d2))))) = (Sp.dvn (Sp.rv n1 d1) (Sp.rv n2 d2)) from by (first | exact (Sp.div_zero' (a := Sp.rv n1 d1) (c := n2) (d := d2) (by omega)).1 | exact (Sp.div_zero' (a := Sp.rv n1 d1) (c := n2) (d := d2) (by omega)).2.1 | exact (Sp.div_zero' (a := Sp.rv n1 d1) (c := n2) (d := d2) (by omega)).2.2 | (rw [Int.zero_sub, Int.zero_sub, Sp.inv_neg' (by omega) (by omega)]; first | exact (Sp.div_leaf (a := Sp.rv n1 d1) (c := n2) (d := d2) (by omega)).1 | exact (Sp.div_leaf (a := Sp.rv n1 d1) (c := n2) (d := d2) (by omega)).2.1 | exact (Sp.div_leaf (a := Sp.rv n1 d1) (c := n2) (d := d2) (by omega)).2.2) | (rw [Sp.inv_pos' (by omega) (by omega)]; first | exact (Sp.div_leaf (a := Sp.rv n1 d1) (c := n2) (d := d2) (by omega)).1 | exact (Sp.div_leaf (a := Sp.rv n1 d1) (c := n2) (d := d2) (by omega)).2.1 | exact (Sp.div_leaf (a := Sp.rv n1 d1) (c := n2) (d := d2) (by omega)).2.2)))) (lcons (congrArg (Value.int .i64) (show (Sp.qd ((Sp.rv n1 d1) * (Sp.rv (0 - (Sp.fd n2 d2)) (0 - (Sp.fn n2 d2))))) = (Sp.dvd (Sp.rv n1 d1) (Sp.rv n2 d2)) from by (first | exact (Sp.div_zero' (a := Sp.rv n1 d1) (c := n2) (d := d2) (by omega)).1 | exact (Sp.div_zero' (a := Sp.rv n1 d1) (c := n2) (d := d2) (by omega)).2.1 | exact (Sp.div_zero' (a := Sp.rv n1 d1) (c := n2) (d := d2) (by omega)).2.2 | (rw [Int.zero_sub, Int.zero_sub, Sp.inv_neg' (by omega) (by omega)]; first | exact (Sp.div_leaf (a := Sp.rv n1 d1) (c := n2) (d := d2) (by omega)).1 | exact (Sp.div_leaf (a := Sp.rv n1 d1) (c := n2) (d := d2) (by omega)).2.1 | exact (Sp.div_leaf (a := Sp.rv n1 d1) (c := n2) (d := d2) (by omega)).2.2) | (rw [Sp.inv_pos' (by omega) (by omega)]; first | exact (Sp.div_leaf (a := Sp.rv n1 d1) (c := n2) (d := d2) (by omega)).1 | exact (Sp.div_leaf (a := Sp.rv n1 d1) (c := n2) (d := d2) (by omega)).2.1 | exact (Sp.div_leaf (a := Sp.rv n1 d1) (c := n2) (d := d2) (by omega)).2.2)))) rfl))) (lcons (congrArg (Value.int .i64) (show (Sp.qe ((Sp.rv n1 d1) * (Sp.rv (0 - (Sp.fd n2 d2)) (0 - (Sp.fn n2 d2))))) = (Sp.dve (Sp.rv n1 d1) (Sp.rv n2 d2)) from by (first | exact (Sp.div_zero' (a := Sp.rv n1 d1) (c := n2) (d := d2) (by omega)).1 | exact (Sp.div_zero' (a := Sp.rv n1 d1) (c := n2) (d := d2) (by omega)).2.1 | exact (Sp.div_zero' (a := Sp.rv n1 d1) (c := n2) (d := d2) (by omega)).2.2 | (rw [Int.zero_sub, Int.zero_sub, Sp.inv_neg' (by omega) (by omega)]; first | exact (Sp.div_leaf (a := Sp.rv n1 d1) (c := n2) (d := d2) (by omega)).1 | exact (Sp.div_leaf (a := Sp.rv n1 d1) (c := n2) (d := d2) (by omega)).2.1 | exact (Sp.div_leaf (a := Sp.rv n1 d1) (c := n2) (d := d2) (by omega)).2.2) | (rw [Sp.inv_pos' (by omega) (by omega)]; first | exact (Sp.div_leaf (a := Sp.rv n1 d1) (c := n2) (d := d2) (by omega)).1 | exact (Sp.div_leaf (a := Sp.rv n1 d1) (c := n2) (d := d2) (by omega)).2.1 | exact (Sp.div_leaf (a := Sp.rv n1 d1) (c := n2) (d := d2) (by omega)).2.2)))) rfl))))
    · have h2p : ¬ (((Sp.fn n2 d2) < 0)) := by first | (simpa using h2) | (have h2q := h2; simp at h2q; omega) | (have h2q := bx2 h2; simp at h2q; omega)
      refine aw_sk ?_
      refine block_normal ?_
      refine then_normal ?_
      refine aw_p 31 (
        .a 6 4 <| .p (does_c (fmul_ok n1 d1 (by omega) (by omega) (by omega) (by omega) (Sp.fd n2 d2) (Sp.fn n2 d2) (by omega) (by omega) (by omega) (by omega))) <| .a 4 4 <| .nil _ _) ?_
      refine aw_rt ?_
      exact en_ret [.agg #[.int .i64 (Sp.qn ((Sp.rv n1 d1) * (Sp.rv (Sp.fd n2 d2) (Sp.fn n2 d2)))), .int .i64 (Sp.qd ((Sp.rv n1 d1) * (Sp.rv (Sp.fd n2 d2) (Sp.fn n2 d2))))], .int .i64 (Sp.qe ((Sp.rv n1 d1) * (Sp.rv (Sp.fd n2 d2) (Sp.fn n2 d2))))] (show (.tuple #[.agg #[.int .i64 (Sp.qn ((Sp.rv n1 d1) * (Sp.rv (Sp.fd n2 d2) (Sp.fn n2 d2)))), .int .i64 (Sp.qd ((Sp.rv n1 d1) * (Sp.rv (Sp.fd n2 d2) (Sp.fn n2 d2))))], .int .i64 (Sp.qe ((Sp.rv n1 d1) * (Sp.rv (Sp.fd n2 d2) (Sp.fn n2 d2))))] : Value) = (.tuple #[.agg #[.int .i64 (Sp.dvn (Sp.rv n1 d1) (Sp.rv n2 d2)), .int .i64 (Sp.dvd (Sp.rv n1 d1) (Sp.rv n2 d2))], .int .i64 (Sp.dve (Sp.rv n1 d1) (Sp.rv n2 d2))]) from (congrArg (fun z : List Value => Value.tuple z.toArray) (lcons (congrArg (fun z : List Value => Value.agg z.toArray) (lcons (congrArg (Value.int .i64) (show (Sp.qn ((Sp.rv n1 d1) * (Sp.rv (Sp.fd n2 d2) (Sp.fn n2 d2)))) = (Sp.dvn (Sp.rv n1 d1) (Sp.rv n2 d2)) from by (first | exact (Sp.div_zero' (a := Sp.rv n1 d1) (c := n2) (d := d2) (by omega)).1 | exact (Sp.div_zero' (a := Sp.rv n1 d1) (c := n2) (d := d2) (by omega)).2.1 | exact (Sp.div_zero' (a := Sp.rv n1 d1) (c := n2) (d := d2) (by omega)).2.2 | (rw [Int.zero_sub, Int.zero_sub, Sp.inv_neg' (by omega) (by omega)]; first | exact (Sp.div_leaf (a := Sp.rv n1 d1) (c := n2) (d := d2) (by omega)).1 | exact (Sp.div_leaf (a := Sp.rv n1 d1) (c := n2) (d := d2) (by omega)).2.1 | exact (Sp.div_leaf (a := Sp.rv n1 d1) (c := n2) (d := d2) (by omega)).2.2) | (rw [Sp.inv_pos' (by omega) (by omega)]; first | exact (Sp.div_leaf (a := Sp.rv n1 d1) (c := n2) (d := d2) (by omega)).1 | exact (Sp.div_leaf (a := Sp.rv n1 d1) (c := n2) (d := d2) (by omega)).2.1 | exact (Sp.div_leaf (a := Sp.rv n1 d1) (c := n2) (d := d2) (by omega)).2.2)))) (lcons (congrArg (Value.int .i64) (show (Sp.qd ((Sp.rv n1 d1) * (Sp.rv (Sp.fd n2 d2) (Sp.fn n2 d2)))) = (Sp.dvd (Sp.rv n1 d1) (Sp.rv n2 d2)) from by (first | exact (Sp.div_zero' (a := Sp.rv n1 d1) (c := n2) (d := d2) (by omega)).1 | exact (Sp.div_zero' (a := Sp.rv n1 d1) (c := n2) (d := d2) (by omega)).2.1 | exact (Sp.div_zero' (a := Sp.rv n1 d1) (c := n2) (d := d2) (by omega)).2.2 | (rw [Int.zero_sub, Int.zero_sub, Sp.inv_neg' (by omega) (by omega)]; first | exact (Sp.div_leaf (a := Sp.rv n1 d1) (c := n2) (d := d2) (by omega)).1 | exact (Sp.div_leaf (a := Sp.rv n1 d1) (c := n2) (d := d2) (by omega)).2.1 | exact (Sp.div_leaf (a := Sp.rv n1 d1) (c := n2) (d := d2) (by omega)).2.2) | (rw [Sp.inv_pos' (by omega) (by omega)]; first | exact (Sp.div_leaf (a := Sp.rv n1 d1) (c := n2) (d := d2) (by omega)).1 | exact (Sp.div_leaf (a := Sp.rv n1 d1) (c := n2) (d := d2) (by omega)).2.1 | exact (Sp.div_leaf (a := Sp.rv n1 d1) (c := n2) (d := d2) (by omega)).2.2)))) rfl))) (lcons (congrArg (Value.int .i64) (show (Sp.qe ((Sp.rv n1 d1) * (Sp.rv (Sp.fd n2 d2) (Sp.fn n2 d2)))) = (Sp.dve (Sp.rv n1 d1) (Sp.rv n2 d2)) from by (first | exact (Sp.div_zero' (a := Sp.rv n1 d1) (c := n2) (d := d2) (by omega)).1 | exact (Sp.div_zero' (a := Sp.rv n1 d1) (c := n2) (d := d2) (by omega)).2.1 | exact (Sp.div_zero' (a := Sp.rv n1 d1) (c := n2) (d := d2) (by omega)).2.2 | (rw [Int.zero_sub, Int.zero_sub, Sp.inv_neg' (by omega) (by omega)]; first | exact (Sp.div_leaf (a := Sp.rv n1 d1) (c := n2) (d := d2) (by omega)).1 | exact (Sp.div_leaf (a := Sp.rv n1 d1) (c := n2) (d := d2) (by omega)).2.1 | exact (Sp.div_leaf (a := Sp.rv n1 d1) (c := n2) (d := d2) (by omega)).2.2) | (rw [Sp.inv_pos' (by omega) (by omega)]; first | exact (Sp.div_leaf (a := Sp.rv n1 d1) (c := n2) (d := d2) (by omega)).1 | exact (Sp.div_leaf (a := Sp.rv n1 d1) (c := n2) (d := d2) (by omega)).2.1 | exact (Sp.div_leaf (a := Sp.rv n1 d1) (c := n2) (d := d2) (by omega)).2.2)))) rfl))))

theorem fof_ok (n : Int) :
    AC Tryz.prog 11 0 ([.int .i64 n]) [] (.agg #[.int .i64 (Sp.mx n (-9223372036854775807)), .int .i64 1]) [] := by
  refine ac_in Tryz.func11 (fun w0 W pin => ?_)
  refine aw_p 3 (
    .a 1 1 <| .nil _ _) ?_
  refine aw_p 7 (
    .a 4 2 <| .nil _ _) ?_
  refine aw_rt ?_
  exact en_ret [.agg #[.int .i64 (Sp.mx n (-9223372036854775807)), .int .i64 1]] (by kernel_rfl)

theorem fparts_ok (n d : Int) (z0 : -9223372036854775807 ≤ n) (z1 : n ≤ 9223372036854775807) (z2 : 0 < d) (z3 : d ≤ 9223372036854775807) :
    AC Tryz.prog 86 0 ([.agg #[.int .i64 n, .int .i64 d]]) [] (.tuple #[.int .i64 (n / d), .int .i64 (n % d)]) [] := by
  refine ac_in Tryz.func86 (fun w0 W pin => ?_)
  refine aw_p 3 (
    .a 3 1 <| .nil _ _) ?_
  refine aw_d 7 (
    .a 4 2 <|
    .p (does_int (n' := Int.tdiv n d) (does_quo (t := 3) (t2 := 3) (x := .tmp 7) (y := .tmp 9) (k := .i64) (a := n) (b := d) (by kernel_rfl) (by kernel_rfl) (by kernel_rfl) (by omega)) ((show (IntKind.wrap .i64 (Int.tdiv n d)) = (Int.tdiv n d) from (wrap_i64 (Sp.tdiv_bd z2 (by omega) (by omega)).1 (Sp.tdiv_bd z2 (by omega) (by omega)).2)))) <|
    .a 4 2 <| .p (does_rem (t := 3) (t2 := 3) (x := .tmp 12) (y := .tmp 14) (k := .i64) (a := n) (b := d) (by kernel_rfl) (by kernel_rfl) (by kernel_rfl) (by omega)) <| .a 2 2 <| .nil _ _) ?_
  refine aw_sq 14 15 ?_
  refine aw_p 29 (
    .a 2 2 <| .nil _ _) ?_
  refine aw_cd 58 59 (decide ((Int.tmod n d) < 0)) (fun h1 => ?_) (fun h1 => ?_)
  · have h1p : (((Int.tmod n d) < 0)) := by first | (simpa using h1) | (have h1q := h1; simp at h1q; omega) | (have h1q := bx1 h1; simp at h1q; omega)
    refine aw_d 117 (
      .a 1 2 <| .p (does_i (n / d) ((show (IntKind.wrap .i64 ((Int.tdiv n d) - 1)) = (n / d) from (by have q := Sp.tdiv_neg' z2 (by omega); have b := Sp.ediv_bd z2 z0 z1; rw [q.1]; exact wrap_i64 (by omega) (by omega)))) .i64) <| .a 3 2 <|
      .p (does_i (n % d) ((show (IntKind.wrap .i64 ((Int.tmod n d) + d)) = (n % d) from (by have q := Sp.tdiv_neg' z2 (by omega); have b := Sp.emod_lt (a := n) z2; rw [q.2]; exact wrap_i64 (by omega) (by omega)))) .i64) <| .a 2 2 <| .nil _ _) ?_
    refine aw_rt ?_
    refine then_ret ?_
    exact en_ret [.int .i64 (n / d), .int .i64 (n % d)] (by kernel_rfl)
  · have h1p : ¬ (((Int.tmod n d) < 0)) := by first | (simpa using h1) | (have h1q := h1; simp at h1q; omega) | (have h1q := bx2 h1; simp at h1q; omega)
    refine aw_sk ?_
    refine then_normal ?_
    refine aw_p 31 (
      .a 4 2 <| .nil _ _) ?_
    refine aw_rt ?_
    exact en_ret [.int .i64 (Int.tdiv n d), .int .i64 (Int.tmod n d)] (show (.tuple #[.int .i64 (Int.tdiv n d), .int .i64 (Int.tmod n d)] : Value) = (.tuple #[.int .i64 (n / d), .int .i64 (n % d)]) from (congrArg (fun z : List Value => Value.tuple z.toArray) (lcons (congrArg (Value.int .i64) (show (Int.tdiv n d) = (n / d) from by (first | exact (Sp.tdiv_pos' z2 (by omega)).1 | exact (Sp.tdiv_pos' z2 (by omega)).2))) (lcons (congrArg (Value.int .i64) (show (Int.tmod n d) = (n % d) from by (first | exact (Sp.tdiv_pos' z2 (by omega)).1 | exact (Sp.tdiv_pos' z2 (by omega)).2))) rfl))))

theorem ffloor_ok (n1 d1 : Int) (zln1 : -9223372036854775808 ≤ n1) (zun1 : n1 ≤ 9223372036854775807) (zld1 : -9223372036854775808 ≤ d1) (zud1 : d1 ≤ 9223372036854775807) :
    AC Tryz.prog 59 0 ([.agg #[.int .i64 n1, .int .i64 d1]]) [] (.int .i64 ((Sp.rv n1 d1).floor)) [] := by
  have fn1 := Sp.fn_bd (d := d1) zln1 zun1; have fd1 := Sp.fd_bd (n := n1) zud1
  refine ac_in Tryz.func59 (fun w0 W pin => ?_)
  refine aw_p 3 (
    .a 2 1 <| .nil _ _) ?_
  refine aw_p 7 (
    .a 1 2 <| .p (does_c (ffit_ok n1 d1 (by omega) (by omega) (by omega) (by omega))) <| .p (does_c (fparts_ok (Sp.fn n1 d1) (Sp.fd n1 d1) (by omega) (by omega) (by omega) (by omega))) <| .a 5 2 <| .nil _ _) ?_
  refine aw_p 15 (
    .a 2 2 <| .nil _ _) ?_
  refine aw_rt ?_
  exact en_ret [.int .i64 ((Sp.fn n1 d1) / (Sp.fd n1 d1))] (show (.int .i64 ((Sp.fn n1 d1) / (Sp.fd n1 d1)) : Value) = (.int .i64 ((Sp.rv n1 d1).floor)) from (congrArg (Value.int .i64) (show ((Sp.fn n1 d1) / (Sp.fd n1 d1)) = ((Sp.rv n1 d1).floor) from by exact (Sp.rv_floor _ _).symm)))

theorem fround_ok (n1 d1 : Int) (zln1 : -9223372036854775808 ≤ n1) (zun1 : n1 ≤ 9223372036854775807) (zld1 : -9223372036854775808 ≤ d1) (zud1 : d1 ≤ 9223372036854775807) :
    AC Tryz.prog 57 0 ([.agg #[.int .i64 n1, .int .i64 d1]]) [] (.int .i64 (Sp.rnd (Sp.rv n1 d1))) [] := by
  have fn1 := Sp.fn_bd (d := d1) zln1 zun1; have fd1 := Sp.fd_bd (n := n1) zud1; have e := Sp.emod_lt (a := Sp.fn n1 d1) (b := Sp.fd n1 d1) (by omega); have fl := Sp.rv_floor n1 d1; have fq := Sp.floor_bd (b := d1) zln1 zun1
  refine ac_in Tryz.func57 (fun w0 W pin => ?_)
  refine aw_p 3 (
    .a 2 1 <| .nil _ _) ?_
  refine aw_p 7 (
    .a 1 2 <| .p (does_c (ffit_ok n1 d1 (by omega) (by omega) (by omega) (by omega))) <| .a 1 2 <| .nil _ _) ?_
  refine aw_p 15 (
    .a 1 2 <| .p (does_c (fparts_ok (Sp.fn n1 d1) (Sp.fd n1 d1) (by omega) (by omega) (by omega) (by omega))) <| .a 5 2 <| .nil _ _) ?_
  refine aw_sq 30 31 ?_
  refine aw_p 61 (
    .a 4 2 <| .p (does_i ((Sp.fd n1 d1) - ((Sp.fn n1 d1) % (Sp.fd n1 d1))) (wrap_i64 (by omega) (by omega)) .i64) <| .a 1 2 <| .nil _ _) ?_
  refine aw_cd 122 123 (decide (((Sp.fn n1 d1) % (Sp.fd n1 d1)) ≥ ((Sp.fd n1 d1) - ((Sp.fn n1 d1) % (Sp.fd n1 d1))))) (fun h1 => ?_) (fun h1 => ?_)
  · have h1p : ((((Sp.fn n1 d1) % (Sp.fd n1 d1)) ≥ ((Sp.fd n1 d1) - ((Sp.fn n1 d1) % (Sp.fd n1 d1))))) := by first | (simpa using h1) | (have h1q := h1; simp at h1q; omega) | (have h1q := bx1 h1; simp at h1q; omega)
    refine aw_p1 (
      .a 1 2 <| .p (does_i (((Sp.fn n1 d1) / (Sp.fd n1 d1)) + 1) (wrap_i64 (by omega) (by have := Sp.up_bd (b := d1) zln1 zun1 (by omega); omega)) .i64) <| .a 1 2 <| .nil _ _) ?_
    refine then_normal ?_
    refine aw_p 63 (
      .a 2 2 <| .nil _ _) ?_
    refine aw_rt ?_
    exact en_ret [.int .i64 (((Sp.fn n1 d1) / (Sp.fd n1 d1)) + 1)] (show (.int .i64 (((Sp.fn n1 d1) / (Sp.fd n1 d1)) + 1) : Value) = (.int .i64 (Sp.rnd (Sp.rv n1 d1))) from (congrArg (Value.int .i64) (show (((Sp.fn n1 d1) / (Sp.fd n1 d1)) + 1) = (Sp.rnd (Sp.rv n1 d1)) from by (rw [Sp.rnd_rv]; first | (rw [if_pos (by omega)]; omega) | (rw [if_neg (by omega)]; omega)))))
  · have h1p : ¬ ((((Sp.fn n1 d1) % (Sp.fd n1 d1)) ≥ ((Sp.fd n1 d1) - ((Sp.fn n1 d1) % (Sp.fd n1 d1))))) := by first | (simpa using h1) | (have h1q := h1; simp at h1q; omega) | (have h1q := bx2 h1; simp at h1q; omega)
    refine aw_sk ?_
    refine then_normal ?_
    refine aw_p 63 (
      .a 2 2 <| .nil _ _) ?_
    refine aw_rt ?_
    exact en_ret [.int .i64 ((Sp.fn n1 d1) / (Sp.fd n1 d1))] (show (.int .i64 ((Sp.fn n1 d1) / (Sp.fd n1 d1)) : Value) = (.int .i64 (Sp.rnd (Sp.rv n1 d1))) from (congrArg (Value.int .i64) (show ((Sp.fn n1 d1) / (Sp.fd n1 d1)) = (Sp.rnd (Sp.rv n1 d1)) from by (rw [Sp.rnd_rv]; first | (rw [if_pos (by omega)]; omega) | (rw [if_neg (by omega)]; omega)))))


end Go.Proofs.YtcokagabchjilaaGreat.Am
