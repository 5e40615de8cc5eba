/-
  The walks of fractions.
-/
import Derived.Test.YtngmegnaohmapaaDoorProg
import Derived.Test.YtngmegnaohmapaaDoorAm16
import Derived.Test.YtngmegnaohmapaaDoorFr1
import Derived.Test.YtngmegnaohmapaaDoorWd2
import Derived.Test.YtngmegnaohmapaaDoorNc7
namespace Go.Proofs.YtngmegnaohmapaaDoor.Am
open Go Go.Proofs
set_option maxRecDepth 100000
set_option maxHeartbeats 4000000
set_option linter.unusedVariables false
set_option linter.unusedSimpArgs false

theorem fsize_ok (n : Int) (zln : -9223372036854775808 ≤ n) (zun : n ≤ 9223372036854775807) :
    AC Tryd.prog 35 0 ([.int .i64 n]) [] (.int .u64 (n.natAbs : Int)) [] := by
  refine ac_in Tryd.func35 (fun w0 W pin => ?_)
  refine aw_p 3 (
    .a 1 1 <| .nil _ _) ?_
  refine aw_sq 6 7 ?_
  refine aw_p 13 (
    .a 2 1 <| .nil _ _) ?_
  refine aw_cd 26 27 (decide (n < 0)) (fun h1 => ?_) (fun h1 => ?_)
  · have h1p : ((n < 0)) := by first | (simpa using h1) | (have h1q := h1; simp at h1q; omega) | (have h1q := bx1 h1; simp at h1q; omega)
    refine aw_p 53 (
      .a 1 1 <| .p (does_i (n % 18446744073709551616) (Sp.ulow) .u64) <| .p (does_i (n.natAbs : Int) ((show (IntKind.wrap .u64 (0 - (n % 18446744073709551616))) = (n.natAbs : Int) from (by rw [IntKind.wrap_u64]; omega))) .u64) <| .a 1 1 <| .nil _ _) ?_
    refine aw_rt ?_
    refine then_ret ?_
    exact en_ret [.int .u64 (n.natAbs : Int)] (by kernel_rfl)
  · have h1p : ¬ ((n < 0)) := by first | (simpa using h1) | (have h1q := h1; simp at h1q; omega) | (have h1q := bx2 h1; simp at h1q; omega)
    refine aw_sk ?_
    refine then_normal ?_
    refine aw_p 15 (
      .a 1 1 <| .p (does_i (n.natAbs : Int) ((show (IntKind.wrap .u64 n) = (n.natAbs : Int) from (by rw [IntKind.wrap_u64]; omega))) .u64) <| .a 1 1 <| .nil _ _) ?_
    refine aw_rt ?_
    exact en_ret [.int .u64 (n.natAbs : Int)] (by kernel_rfl)

theorem fgcd_ok (m n : Int) (z0 : 0 ≤ m) (z1 : m ≤ 18446744073709551615) (z2 : 0 ≤ n) (z3 : n ≤ 18446744073709551615) :
    AC Tryd.prog 36 0 ([.int .u64 m, .int .u64 n]) [] (.int .u64 (Int.gcd m n : Int)) [] := by
  refine ac_in Tryd.func36 (fun w0 W pin => ?_)
  refine aw_p 3 (
    .a 1 1 <| .nil _ _) ?_
  refine aw_sq 6 7 ?_
  refine aw_bl 0 13 ?_
  refine aw_lp 27 ?_
  refine al_w [(0, .int .u64 m), (1, .int .u64 n), (4, .int .u64 0)] [] ?_
  refine al_ind (fun i : Int × Int => (fun (a : Int) (b : Int) => mkSt 0 [(0, .int .u64 a), (1, .int .u64 b), (4, .int .u64 0)] []) i.1 i.2) (fun i : Int × Int => (fun (a : Int) (b : Int) => (0 ≤ a) ∧ (a ≤ 18446744073709551615) ∧ (0 ≤ b) ∧ (b ≤ 18446744073709551615) ∧ (Int.gcd a b = Int.gcd m n)) i.1 i.2) (fun i : Int × Int => (fun (a : Int) (b : Int) => b.toNat) i.1 i.2) (fun i hi1 ih1 => ?_) (m, n) (show (0 ≤ m) ∧ (m ≤ 18446744073709551615) ∧ (0 ≤ n) ∧ (n ≤ 18446744073709551615) ∧ (Int.gcd m n = Int.gcd m n) from ⟨by omega, by omega, by omega, by omega, by rfl⟩)
  obtain ⟨a, b⟩ := i
  have hi1' : (0 ≤ a) ∧ (a ≤ 18446744073709551615) ∧ (0 ≤ b) ∧ (b ≤ 18446744073709551615) ∧ (Int.gcd a b = Int.gcd m n) := hi1
  obtain ⟨ha0, ha1, hb0, hb1, hg⟩ := hi1'
  show AL _ _ _ (mkSt 0 [(0, .int .u64 a), (1, .int .u64 b), (4, .int .u64 0)] []) _
  refine al_round ?_
  refine aw_sq 54 55 ?_
  refine aw_p 109 (
    .a 2 1 <| .nil _ _) ?_
  refine aw_cd 218 219 (decide (b > 0)) (fun h1 => ?_) (fun h1 => ?_)
  · have h1p : ((b > 0)) := by first | (simpa using h1) | (have h1q := h1; simp at h1q; omega) | (have h1q := bx1 h1; simp at h1q; omega)
    refine aw_sk ?_
    refine then_normal ?_
    refine aw_bl 1 111 ?_
    refine aw_d1 (
      .a 3 1 <| .p (does_int (n' := a % b) (does_rem (t := 25) (t2 := 25) (x := .tmp 8) (y := .tmp 9) (k := .u64) (a := a) (b := b) (by kernel_rfl) (by kernel_rfl) (by kernel_rfl) (by omega)) (Sp.umod ha0)) <| .a 2 1 <| .nil _ _) ?_
    refine block_normal ?_
    refine then_normal ?_
    refine al_w [(0, .int .u64 b), (1, .int .u64 (a % b)), (4, .int .u64 0)] [] ?_
    exact ih1 (b, (a % b)) (show (0 ≤ b) ∧ (b ≤ 18446744073709551615) ∧ (0 ≤ (a % b)) ∧ ((a % b) ≤ 18446744073709551615) ∧ (Int.gcd b (a % b) = Int.gcd m n) from ⟨by omega, by omega, by (have := Sp.emod_lt (a := a) (b := b) (by omega); omega), by (have := Sp.emod_lt (a := a) (b := b) (by omega); omega), by (rw [← hg]; exact Sp.gcd_step ha0 hb0)⟩) (show (a % b).toNat < b.toNat from by (have := Sp.emod_lt (a := a) (b := b) (by omega); omega))
  · have h1p : ¬ ((b > 0)) := by first | (simpa using h1) | (have h1q := h1; simp at h1q; omega) | (have h1q := bx2 h1; simp at h1q; omega)
    refine aw_ex 0 ?_
    refine then_exit ?_
    refine then_exit ?_
    refine block_exit ?_
    refine then_normal ?_
    refine aw_p 15 (
      .a 2 1 <| .nil _ _) ?_
    refine aw_rt ?_
    exact en_ret [.int .u64 a] (show (.int .u64 a : Value) = (.int .u64 (Int.gcd m n : Int)) from (congrArg (Value.int .u64) (show a = (Int.gcd m n : Int) from by (rw [← hg, show b = 0 by omega, Int.gcd_zero_right]; omega))))

theorem fgood_ok (n1 d1 : Int) (zln1 : -9223372036854775808 ≤ n1) (zun1 : n1 ≤ 9223372036854775807) (zld1 : -9223372036854775808 ≤ d1) (zud1 : d1 ≤ 9223372036854775807) :
    AC Tryd.prog 22 0 ([.agg #[.int .i64 n1, .int .i64 d1]]) [] (.bool (Sp.gd n1 d1)) [] := by
  refine ac_in Tryd.func22 (fun w0 W pin => ?_)
  refine aw_p 3 (
    .a 2 1 <| .nil _ _) ?_
  rcases Bool.eq_false_or_eq_true (decide (0 < d1)) with h1 | h1
  · have h1p : ((0 < d1)) := by first | (simpa using h1) | (have h1q := h1; simp at h1q; omega) | (have h1q := bx1 h1; simp at h1q; omega)
    rcases Bool.eq_false_or_eq_true (decide (-9223372036854775808 < n1)) with h2 | h2
    · have h2p : ((-9223372036854775808 < n1)) := by first | (simpa using h2) | (have h2q := h2; simp at h2q; omega) | (have h2q := bx1 h2; simp at h2q; omega)
      refine aw_d 7 (
        .a 2 2 <| .p (does_b true ((rfl).trans (h1))) <| .a 3 2 <| .p (does_b true ((rfl).trans (h2))) <| .a 4 2 <| .p (does_c (fsize_ok n1 (by omega) (by omega))) <| .a 2 2 <| .p (does_c (fsize_ok d1 (by omega) (by omega))) <|
        .p (does_c (fgcd_ok (n1.natAbs : Int) (d1.natAbs : Int) (by omega) (by omega) (by omega) (by omega))) <| .p (does_b (decide (Nat.gcd n1.natAbs d1.natAbs = 1)) (Sp.gcd_one _ _)) <| .a 2 2 <| .nil _ _) ?_
      refine aw_rt ?_
      exact en_ret [.bool (decide (Nat.gcd n1.natAbs d1.natAbs = 1))] (show (.bool (decide (Nat.gcd n1.natAbs d1.natAbs = 1)) : Value) = (.bool (Sp.gd n1 d1)) from (congrArg Value.bool (show (decide (Nat.gcd n1.natAbs d1.natAbs = 1)) = (Sp.gd n1 d1) from by (simp only [Sp.gd, *, decide_true, decide_false, Bool.true_and, Bool.false_and, Bool.and_false]))))
    · have h2p : ¬ ((-9223372036854775808 < n1)) := by first | (simpa using h2) | (have h2q := h2; simp at h2q; omega) | (have h2q := bx2 h2; simp at h2q; omega)
      refine aw_d 7 (
        .a 2 2 <| .p (does_b true ((rfl).trans (h1))) <| .a 3 2 <| .p (does_b false ((rfl).trans (h2))) <| .a 12 2 <| .nil _ _) ?_
      refine aw_rt ?_
      exact en_ret [.bool false] (show (.bool false : Value) = (.bool (Sp.gd n1 d1)) from (congrArg Value.bool (show false = (Sp.gd n1 d1) from by (simp only [Sp.gd, *, decide_true, decide_false, Bool.true_and, Bool.false_and, Bool.and_false]))))
  · have h1p : ¬ ((0 < d1)) := by first | (simpa using h1) | (have h1q := h1; simp at h1q; omega) | (have h1q := bx2 h1; simp at h1q; omega)
    refine aw_d 7 (
      .a 2 2 <| .p (does_b false ((rfl).trans (h1))) <| .a 16 2 <| .nil _ _) ?_
    refine aw_rt ?_
    exact en_ret [.bool false] (show (.bool false : Value) = (.bool (Sp.gd n1 d1)) from (congrArg Value.bool (show false = (Sp.gd n1 d1) from by (simp only [Sp.gd, *, decide_true, decide_false, Bool.true_and, Bool.false_and, Bool.and_false]))))

theorem ffit_ok (n1 d1 : Int) (zln1 : -9223372036854775808 ≤ n1) (zun1 : n1 ≤ 9223372036854775807) (zld1 : -9223372036854775808 ≤ d1) (zud1 : d1 ≤ 9223372036854775807) :
    AC Tryd.prog 31 0 ([.agg #[.int .i64 n1, .int .i64 d1]]) [] (.agg #[.int .i64 (Sp.fn n1 d1), .int .i64 (Sp.fd n1 d1)]) [] := by
  refine ac_in Tryd.func31 (fun w0 W pin => ?_)
  refine aw_p 3 (
    .a 2 1 <| .nil _ _) ?_
  refine aw_sq 6 7 ?_
  refine aw_p 13 (
    .a 1 3 <| .p (does_c (fgood_ok n1 d1 (by omega) (by omega) (by omega) (by omega))) <| .a 1 3 <| .nil _ _) ?_
  refine aw_cd 26 27 (!(Sp.gd n1 d1)) (fun h1 => ?_) (fun h1 => ?_)
  · have h1p : ¬ (Sp.gd n1 d1) = true := by simpa using h1
    refine aw_p 53 (
      .a 2 3 <| .nil _ _) ?_
    refine aw_rt ?_
    refine then_ret ?_
    exact en_ret [.agg #[.int .i64 0, .int .i64 1]] (show (.agg #[.int .i64 0, .int .i64 1] : Value) = (.agg #[.int .i64 (Sp.fn n1 d1), .int .i64 (Sp.fd n1 d1)]) from (congrArg (fun z : List Value => Value.agg z.toArray) (lcons (congrArg (Value.int .i64) (show 0 = (Sp.fn n1 d1) from by (first | (rw [Sp.fn_no h1p]; first | done | decide +kernel) | (rw [Sp.fd_no h1p]; first | done | decide +kernel) | (rw [Sp.fn_yes h1p]) | (rw [Sp.fd_yes h1p])))) (lcons (congrArg (Value.int .i64) (show 1 = (Sp.fd n1 d1) from by (first | (rw [Sp.fn_no h1p]; first | done | decide +kernel) | (rw [Sp.fd_no h1p]; first | done | decide +kernel) | (rw [Sp.fn_yes h1p]) | (rw [Sp.fd_yes h1p])))) rfl))))
  · have h1p : (Sp.gd n1 d1) = true := by simpa using h1
    refine aw_sk ?_
    refine then_normal ?_
    refine aw_p 15 (
      .a 2 3 <| .nil _ _) ?_
    refine aw_rt ?_
    exact en_ret [.agg #[.int .i64 n1, .int .i64 d1]] (show (.agg #[.int .i64 n1, .int .i64 d1] : Value) = (.agg #[.int .i64 (Sp.fn n1 d1), .int .i64 (Sp.fd n1 d1)]) from (congrArg (fun z : List Value => Value.agg z.toArray) (lcons (congrArg (Value.int .i64) (show n1 = (Sp.fn n1 d1) from by (first | (rw [Sp.fn_no h1p]; first | done | decide +kernel) | (rw [Sp.fd_no h1p]; first | done | decide +kernel) | (rw [Sp.fn_yes h1p]) | (rw [Sp.fd_yes h1p])))) (lcons (congrArg (Value.int .i64) (show d1 = (Sp.fd n1 d1) from by (first | (rw [Sp.fn_no h1p]; first | done | decide +kernel) | (rw [Sp.fd_no h1p]; first | done | decide +kernel) | (rw [Sp.fn_yes h1p]) | (rw [Sp.fd_yes h1p])))) rfl))))

theorem fsigned_ok (b : Bool) (x y : Int) (z0 : 0 ≤ x) (z1 : x ≤ 18446744073709551615) (z2 : 0 ≤ y) (z3 : y ≤ 18446744073709551615) :
    AC Tryd.prog 37 0 ([.bool b, .int .u64 x, .int .u64 y]) [] (.tuple #[.agg #[.int .i64 (Sp.sgN b x y), .int .i64 (Sp.sgD x y)], .int .i64 (Sp.sgE x y)]) [] := by
  refine ac_in Tryd.func37 (fun w0 W pin => ?_)
  refine aw_p 3 (
    .a 2 1 <| .nil _ _) ?_
  refine aw_sq 6 7 ?_
  rcases Bool.eq_false_or_eq_true (decide (x > 9223372036854775807)) with h1 | h1
  · have h1p : ((x > 9223372036854775807)) := by first | (simpa using h1) | (have h1q := h1; simp at h1q; omega) | (have h1q := bx1 h1; simp at h1q; omega)
    refine aw_p 13 (
      .a 1 2 <| .p (does_b true (h1)) <| .a 4 2 <| .nil _ _) ?_
    refine aw_tr 26 ?_
    refine aw_p 53 (
      .a 3 2 <| .nil _ _) ?_
    refine aw_rt ?_
    refine then_ret ?_
    exact en_ret [.agg #[.int .i64 0, .int .i64 0], .int .i64 2] (show (.tuple #[.agg #[.int .i64 0, .int .i64 0], .int .i64 2] : Value) = (.tuple #[.agg #[.int .i64 (Sp.sgN b x y), .int .i64 (Sp.sgD x y)], .int .i64 (Sp.sgE x y)]) from (congrArg (fun z : List Value => Value.tuple z.toArray) (lcons (congrArg (fun z : List Value => Value.agg z.toArray) (lcons (congrArg (Value.int .i64) (show 0 = (Sp.sgN b x y) from by (first | exact (Sp.sg_no b (by omega)).1 | exact (Sp.sg_no b (by omega)).2.1 | exact (Sp.sg_no b (by omega)).2.2 | (simp only [*]; first | exact (Sp.sg_yes (by omega) (by omega)).1 | exact (Sp.sg_yes (by omega) (by omega)).2.1) | exact (Sp.sg_yes (by omega) (by omega)).2.2.1 | exact (Sp.sg_yes (by omega) (by omega)).2.2.2))) (lcons (congrArg (Value.int .i64) (show 0 = (Sp.sgD x y) from by (first | exact (Sp.sg_no b (by omega)).1 | exact (Sp.sg_no b (by omega)).2.1 | exact (Sp.sg_no b (by omega)).2.2 | (simp only [*]; first | exact (Sp.sg_yes (by omega) (by omega)).1 | exact (Sp.sg_yes (by omega) (by omega)).2.1) | exact (Sp.sg_yes (by omega) (by omega)).2.2.1 | exact (Sp.sg_yes (by omega) (by omega)).2.2.2))) rfl))) (lcons (congrArg (Value.int .i64) (show 2 = (Sp.sgE x y) from by (first | exact (Sp.sg_no b (by omega)).1 | exact (Sp.sg_no b (by omega)).2.1 | exact (Sp.sg_no b (by omega)).2.2 | (simp only [*]; first | exact (Sp.sg_yes (by omega) (by omega)).1 | exact (Sp.sg_yes (by omega) (by omega)).2.1) | exact (Sp.sg_yes (by omega) (by omega)).2.2.1 | exact (Sp.sg_yes (by omega) (by omega)).2.2.2))) rfl))))
  · have h1p : ¬ ((x > 9223372036854775807)) := by first | (simpa using h1) | (have h1q := h1; simp at h1q; omega) | (have h1q := bx2 h1; simp at h1q; omega)
    refine aw_p 13 (
      .a 1 2 <| .p (does_b false (h1)) <| .a 4 2 <| .nil _ _) ?_
    refine aw_cd 26 27 (decide (y > 9223372036854775807)) (fun h2 => ?_) (fun h2 => ?_)
    · have h2p : ((y > 9223372036854775807)) := by first | (simpa using h2) | (have h2q := h2; simp at h2q; omega) | (have h2q := bx1 h2; simp at h2q; omega)
      refine aw_p 53 (
        .a 3 2 <| .nil _ _) ?_
      refine aw_rt ?_
      refine then_ret ?_
      exact en_ret [.agg #[.int .i64 0, .int .i64 0], .int .i64 2] (show (.tuple #[.agg #[.int .i64 0, .int .i64 0], .int .i64 2] : Value) = (.tuple #[.agg #[.int .i64 (Sp.sgN b x y), .int .i64 (Sp.sgD x y)], .int .i64 (Sp.sgE x y)]) from (congrArg (fun z : List Value => Value.tuple z.toArray) (lcons (congrArg (fun z : List Value => Value.agg z.toArray) (lcons (congrArg (Value.int .i64) (show 0 = (Sp.sgN b x y) from by (first | exact (Sp.sg_no b (by omega)).1 | exact (Sp.sg_no b (by omega)).2.1 | exact (Sp.sg_no b (by omega)).2.2 | (simp only [*]; first | exact (Sp.sg_yes (by omega) (by omega)).1 | exact (Sp.sg_yes (by omega) (by omega)).2.1) | exact (Sp.sg_yes (by omega) (by omega)).2.2.1 | exact (Sp.sg_yes (by omega) (by omega)).2.2.2))) (lcons (congrArg (Value.int .i64) (show 0 = (Sp.sgD x y) from by (first | exact (Sp.sg_no b (by omega)).1 | exact (Sp.sg_no b (by omega)).2.1 | exact (Sp.sg_no b (by omega)).2.2 | (simp only [*]; first | exact (Sp.sg_yes (by omega) (by omega)).1 | exact (Sp.sg_yes (by omega) (by omega)).2.1) | exact (Sp.sg_yes (by omega) (by omega)).2.2.1 | exact (Sp.sg_yes (by omega) (by omega)).2.2.2))) rfl))) (lcons (congrArg (Value.int .i64) (show 2 = (Sp.sgE x y) from by (first | exact (Sp.sg_no b (by omega)).1 | exact (Sp.sg_no b (by omega)).2.1 | exact (Sp.sg_no b (by omega)).2.2 | (simp only [*]; first | exact (Sp.sg_yes (by omega) (by omega)).1 | exact (Sp.sg_yes (by omega) (by omega)).2.1) | exact (Sp.sg_yes (by omega) (by omega)).2.2.1 | exact (Sp.sg_yes (by omega) (by omega)).2.2.2))) rfl))))
    · have h2p : ¬ ((y > 9223372036854775807)) := by first | (simpa using h2) | (have h2q := h2; simp at h2q; omega) | (have h2q := bx2 h2; simp at h2q; omega)
      refine aw_sk ?_
      refine then_normal ?_
      refine aw_sq 14 15 ?_
      refine aw_p 29 (
        .a 1 2 <| .nil _ _) ?_
      refine aw_cd 58 59 b (fun h3 => ?_) (fun h3 => ?_)
      · refine aw_p 117 (
          .a 1 2 <| .p (does_i x (wrap_i64 (by omega) (by omega)) .i64) <| .p (does_i (0 - x) (wrap_i64 (by omega) (by omega)) .i64) <| .a 1 2 <| .p (does_i y (wrap_i64 (by omega) (by omega)) .i64) <| .a 3 2 <| .nil _ _) ?_
        refine aw_rt ?_
        refine then_ret ?_
        exact en_ret [.agg #[.int .i64 (0 - x), .int .i64 y], .int .i64 0] (show (.tuple #[.agg #[.int .i64 (0 - x), .int .i64 y], .int .i64 0] : Value) = (.tuple #[.agg #[.int .i64 (Sp.sgN b x y), .int .i64 (Sp.sgD x y)], .int .i64 (Sp.sgE x y)]) from (congrArg (fun z : List Value => Value.tuple z.toArray) (lcons (congrArg (fun z : List Value => Value.agg z.toArray) (lcons (congrArg (Value.int .i64) (show (0 - x) = (Sp.sgN b x y) from by (first | exact (Sp.sg_no b (by omega)).1 | exact (Sp.sg_no b (by omega)).2.1 | exact (Sp.sg_no b (by omega)).2.2 | (simp only [*]; first | exact (Sp.sg_yes (by omega) (by omega)).1 | exact (Sp.sg_yes (by omega) (by omega)).2.1) | exact (Sp.sg_yes (by omega) (by omega)).2.2.1 | exact (Sp.sg_yes (by omega) (by omega)).2.2.2))) (lcons (congrArg (Value.int .i64) (show y = (Sp.sgD x y) from by (first | exact (Sp.sg_no b (by omega)).1 | exact (Sp.sg_no b (by omega)).2.1 | exact (Sp.sg_no b (by omega)).2.2 | (simp only [*]; first | exact (Sp.sg_yes (by omega) (by omega)).1 | exact (Sp.sg_yes (by omega) (by omega)).2.1) | exact (Sp.sg_yes (by omega) (by omega)).2.2.1 | exact (Sp.sg_yes (by omega) (by omega)).2.2.2))) rfl))) (lcons (congrArg (Value.int .i64) (show 0 = (Sp.sgE x y) from by (first | exact (Sp.sg_no b (by omega)).1 | exact (Sp.sg_no b (by omega)).2.1 | exact (Sp.sg_no b (by omega)).2.2 | (simp only [*]; first | exact (Sp.sg_yes (by omega) (by omega)).1 | exact (Sp.sg_yes (by omega) (by omega)).2.1) | exact (Sp.sg_yes (by omega) (by omega)).2.2.1 | exact (Sp.sg_yes (by omega) (by omega)).2.2.2))) rfl))))
      · refine aw_sk ?_
        refine then_normal ?_
        refine aw_p 31 (
          .a 1 2 <| .p (does_i x (wrap_i64 (by omega) (by omega)) .i64) <| .a 1 2 <| .p (does_i y (wrap_i64 (by omega) (by omega)) .i64) <| .a 3 2 <| .nil _ _) ?_
        refine aw_rt ?_
        exact en_ret [.agg #[.int .i64 x, .int .i64 y], .int .i64 0] (show (.tuple #[.agg #[.int .i64 x, .int .i64 y], .int .i64 0] : Value) = (.tuple #[.agg #[.int .i64 (Sp.sgN b x y), .int .i64 (Sp.sgD x y)], .int .i64 (Sp.sgE x y)]) from (congrArg (fun z : List Value => Value.tuple z.toArray) (lcons (congrArg (fun z : List Value => Value.agg z.toArray) (lcons (congrArg (Value.int .i64) (show x = (Sp.sgN b x y) from by (first | exact (Sp.sg_no b (by omega)).1 | exact (Sp.sg_no b (by omega)).2.1 | exact (Sp.sg_no b (by omega)).2.2 | (simp only [*]; first | exact (Sp.sg_yes (by omega) (by omega)).1 | exact (Sp.sg_yes (by omega) (by omega)).2.1) | exact (Sp.sg_yes (by omega) (by omega)).2.2.1 | exact (Sp.sg_yes (by omega) (by omega)).2.2.2))) (lcons (congrArg (Value.int .i64) (show y = (Sp.sgD x y) from by (first | exact (Sp.sg_no b (by omega)).1 | exact (Sp.sg_no b (by omega)).2.1 | exact (Sp.sg_no b (by omega)).2.2 | (simp only [*]; first | exact (Sp.sg_yes (by omega) (by omega)).1 | exact (Sp.sg_yes (by omega) (by omega)).2.1) | exact (Sp.sg_yes (by omega) (by omega)).2.2.1 | exact (Sp.sg_yes (by omega) (by omega)).2.2.2))) rfl))) (lcons (congrArg (Value.int .i64) (show 0 = (Sp.sgE x y) from by (first | exact (Sp.sg_no b (by omega)).1 | exact (Sp.sg_no b (by omega)).2.1 | exact (Sp.sg_no b (by omega)).2.2 | (simp only [*]; first | exact (Sp.sg_yes (by omega) (by omega)).1 | exact (Sp.sg_yes (by omega) (by omega)).2.1) | exact (Sp.sg_yes (by omega) (by omega)).2.2.1 | exact (Sp.sg_yes (by omega) (by omega)).2.2.2))) rfl))))

theorem fmake_ok (n d : Int) (zln : -9223372036854775808 ≤ n) (zun : n ≤ 9223372036854775807) (zld : -9223372036854775808 ≤ d) (zud : d ≤ 9223372036854775807) :
    AC Tryd.prog 17 0 ([.int .i64 n, .int .i64 d]) [] (.tuple #[.agg #[.int .i64 (Sp.dvn ((n : Int) : Rat) ((d : Int) : Rat)), .int .i64 (Sp.dvd ((n : Int) : Rat) ((d : Int) : Rat))], .int .i64 (Sp.dve ((n : Int) : Rat) ((d : Int) : Rat))]) [] := by
  refine ac_in Tryd.func17 (fun w0 W pin => ?_)
  refine aw_p 3 (
    .a 2 1 <| .nil _ _) ?_
  refine aw_sq 6 7 ?_
  refine aw_p 13 (
    .a 2 2 <| .nil _ _) ?_
  refine aw_cd 26 27 (d == 0) (fun h1 => ?_) (fun h1 => ?_)
  · have h1p : ((d = 0)) := by first | (simpa using h1) | (have h1q := h1; simp at h1q; omega) | (have h1q := bx1 h1; simp at h1q; omega)
    refine aw_p 53 (
      .a 3 2 <| .nil _ _) ?_
    refine aw_rt ?_
    refine then_ret ?_
    exact en_ret [.agg #[.int .i64 0, .int .i64 0], .int .i64 12] (show (.tuple #[.agg #[.int .i64 0, .int .i64 0], .int .i64 12] : Value) = (.tuple #[.agg #[.int .i64 (Sp.dvn ((n : Int) : Rat) ((d : Int) : Rat)), .int .i64 (Sp.dvd ((n : Int) : Rat) ((d : Int) : Rat))], .int .i64 (Sp.dve ((n : Int) : Rat) ((d : Int) : Rat))]) from (congrArg (fun z : List Value => Value.tuple z.toArray) (lcons (congrArg (fun z : List Value => Value.agg z.toArray) (lcons (congrArg (Value.int .i64) (show 0 = (Sp.dvn ((n : Int) : Rat) ((d : Int) : Rat)) from by (first | (rw [show d = 0 by omega]; first | exact (Sp.make_zero _).1 | exact (Sp.make_zero _).2.1 | exact (Sp.make_zero _).2.2) | exact (Sp.make_leaf (n := n) (d := d) (b := true) (by omega) (by simp; omega)).1 | exact (Sp.make_leaf (n := n) (d := d) (b := true) (by omega) (by simp; omega)).2.1 | exact (Sp.make_leaf (n := n) (d := d) (b := true) (by omega) (by simp; omega)).2.2 | exact (Sp.make_leaf (n := n) (d := d) (b := false) (by omega) (by simp; omega)).1 | exact (Sp.make_leaf (n := n) (d := d) (b := false) (by omega) (by simp; omega)).2.1 | exact (Sp.make_leaf (n := n) (d := d) (b := false) (by omega) (by simp; omega)).2.2 | exact (Sp.make_leaf (n := n) (d := d) (b := (n != 0)) (by omega) (by simp; omega)).1 | exact (Sp.make_leaf (n := n) (d := d) (b := (n != 0)) (by omega) (by simp; omega)).2.1 | exact (Sp.make_leaf (n := n) (d := d) (b := (n != 0)) (by omega) (by simp; omega)).2.2))) (lcons (congrArg (Value.int .i64) (show 0 = (Sp.dvd ((n : Int) : Rat) ((d : Int) : Rat)) from by (first | (rw [show d = 0 by omega]; first | exact (Sp.make_zero _).1 | exact (Sp.make_zero _).2.1 | exact (Sp.make_zero _).2.2) | exact (Sp.make_leaf (n := n) (d := d) (b := true) (by omega) (by simp; omega)).1 | exact (Sp.make_leaf (n := n) (d := d) (b := true) (by omega) (by simp; omega)).2.1 | exact (Sp.make_leaf (n := n) (d := d) (b := true) (by omega) (by simp; omega)).2.2 | exact (Sp.make_leaf (n := n) (d := d) (b := false) (by omega) (by simp; omega)).1 | exact (Sp.make_leaf (n := n) (d := d) (b := false) (by omega) (by simp; omega)).2.1 | exact (Sp.make_leaf (n := n) (d := d) (b := false) (by omega) (by simp; omega)).2.2 | exact (Sp.make_leaf (n := n) (d := d) (b := (n != 0)) (by omega) (by simp; omega)).1 | exact (Sp.make_leaf (n := n) (d := d) (b := (n != 0)) (by omega) (by simp; omega)).2.1 | exact (Sp.make_leaf (n := n) (d := d) (b := (n != 0)) (by omega) (by simp; omega)).2.2))) rfl))) (lcons (congrArg (Value.int .i64) (show 12 = (Sp.dve ((n : Int) : Rat) ((d : Int) : Rat)) from by (first | (rw [show d = 0 by omega]; first | exact (Sp.make_zero _).1 | exact (Sp.make_zero _).2.1 | exact (Sp.make_zero _).2.2) | exact (Sp.make_leaf (n := n) (d := d) (b := true) (by omega) (by simp; omega)).1 | exact (Sp.make_leaf (n := n) (d := d) (b := true) (by omega) (by simp; omega)).2.1 | exact (Sp.make_leaf (n := n) (d := d) (b := true) (by omega) (by simp; omega)).2.2 | exact (Sp.make_leaf (n := n) (d := d) (b := false) (by omega) (by simp; omega)).1 | exact (Sp.make_leaf (n := n) (d := d) (b := false) (by omega) (by simp; omega)).2.1 | exact (Sp.make_leaf (n := n) (d := d) (b := false) (by omega) (by simp; omega)).2.2 | exact (Sp.make_leaf (n := n) (d := d) (b := (n != 0)) (by omega) (by simp; omega)).1 | exact (Sp.make_leaf (n := n) (d := d) (b := (n != 0)) (by omega) (by simp; omega)).2.1 | exact (Sp.make_leaf (n := n) (d := d) (b := (n != 0)) (by omega) (by simp; omega)).2.2))) rfl))))
  · have h1p : ¬ ((d = 0)) := by first | (simpa using h1) | (have h1q := h1; simp at h1q; omega) | (have h1q := bx2 h1; simp at h1q; omega)
    have gp := Sp.gcd_posN (n := n) (d := d) (by omega); have b0 := Sp.quo_bd (a := (n.natAbs : Int)) (b := (Int.gcd n d : Int)) (by omega) gp; have b1 := Sp.quo_bd (a := (d.natAbs : Int)) (b := (Int.gcd n d : Int)) (by omega) gp
    refine aw_sk ?_
    refine then_normal ?_
    refine aw_p 15 (
      .a 1 2 <| .p (does_c (fsize_ok n (by omega) (by omega))) <| .a 1 2 <| .p (does_c (fsize_ok d (by omega) (by omega))) <| .a 2 2 <| .nil _ _) ?_
    refine aw_p 31 (
      .a 2 2 <| .p (does_c (fgcd_ok (n.natAbs : Int) (d.natAbs : Int) (by omega) (by omega) (by omega) (by omega))) <| .a 1 2 <| .nil _ _) ?_
    rcases Bool.eq_false_or_eq_true (!((decide (n < 0)) == (decide (d < 0)))) with h2 | h2
    · have h2p : (¬ ((((n < 0)) ↔ ((d < 0))))) := by first | (simpa using h2) | (have h2q := h2; simp at h2q; omega) | (have h2q := bx3 h2; simp at h2q; omega)
      refine aw_d 63 (
        .a 4 2 <| .p (does_b true (h2)) <| .a 6 2 <|
        .p (does_int (n' := ((n.natAbs : Int) / (Int.gcd n d : Int))) (does_quo (t := 25) (t2 := 25) (x := .tmp 28) (y := .tmp 29) (k := .u64) (a := (n.natAbs : Int)) (b := (Int.gcd n d : Int)) (by kernel_rfl) (by kernel_rfl) (by kernel_rfl) ((by have := Sp.gcd_posN (n := n) (d := d) (by omega); omega))) ((show (IntKind.wrap .u64 (Int.tdiv (n.natAbs : Int) (Int.gcd n d : Int))) = ((n.natAbs : Int) / (Int.gcd n d : Int)) from Sp.uquo (by omega) (by omega) (Sp.gcd_posN (by omega))))) <|
        .a 2 2 <|
        .p (does_int (n' := ((d.natAbs : Int) / (Int.gcd n d : Int))) (does_quo (t := 25) (t2 := 25) (x := .tmp 31) (y := .tmp 32) (k := .u64) (a := (d.natAbs : Int)) (b := (Int.gcd n d : Int)) (by kernel_rfl) (by kernel_rfl) (by kernel_rfl) ((by have := Sp.gcd_posN (n := n) (d := d) (by omega); omega))) ((show (IntKind.wrap .u64 (Int.tdiv (d.natAbs : Int) (Int.gcd n d : Int))) = ((d.natAbs : Int) / (Int.gcd n d : Int)) from Sp.uquo (by omega) (by omega) (Sp.gcd_posN (by omega))))) <|
        .p (does_c (fsigned_ok (n != 0) ((n.natAbs : Int) / (Int.gcd n d : Int)) ((d.natAbs : Int) / (Int.gcd n d : Int)) (by omega) (by omega) (by omega) (by omega))) <| .a 4 2 <| .nil _ _) ?_
      refine aw_rt ?_
      exact en_ret [.agg #[.int .i64 (Sp.sgN (n != 0) ((n.natAbs : Int) / (Int.gcd n d : Int)) ((d.natAbs : Int) / (Int.gcd n d : Int))), .int .i64 (Sp.sgD ((n.natAbs : Int) / (Int.gcd n d : Int)) ((d.natAbs : Int) / (Int.gcd n d : Int)))], .int .i64 (Sp.sgE ((n.natAbs : Int) / (Int.gcd n d : Int)) ((d.natAbs : Int) / (Int.gcd n d : Int)))] (show (.tuple #[.agg #[.int .i64 (Sp.sgN (n != 0) ((n.natAbs : Int) / (Int.gcd n d : Int)) ((d.natAbs : Int) / (Int.gcd n d : Int))), .int .i64 (Sp.sgD ((n.natAbs : Int) / (Int.gcd n d : Int)) ((d.natAbs : Int) / (Int.gcd n d : Int)))], .int .i64 (Sp.sgE ((n.natAbs : Int) / (Int.gcd n d : Int)) ((d.natAbs : Int) / (Int.gcd n d : Int)))] : Value) = (.tuple #[.agg #[.int .i64 (Sp.dvn ((n : Int) : Rat) ((d : Int) : Rat)), .int .i64 (Sp.dvd ((n : Int) : Rat) ((d : Int) : Rat))], .int .i64 (Sp.dve ((n : Int) : Rat) ((d : Int) : Rat))]) from (congrArg (fun z : List Value => Value.tuple z.toArray) (lcons (congrArg (fun z : List Value => Value.agg z.toArray) (lcons (congrArg (Value.int .i64) (show (Sp.sgN (n != 0) ((n.natAbs : Int) / (Int.gcd n d : Int)) ((d.natAbs : Int) / (Int.gcd n d : Int))) = (Sp.dvn ((n : Int) : Rat) ((d : Int) : Rat)) from by (first | (rw [show d = 0 by omega]; first | exact (Sp.make_zero _).1 | exact (Sp.make_zero _).2.1 | exact (Sp.make_zero _).2.2) | exact (Sp.make_leaf (n := n) (d := d) (b := true) (by omega) (by simp; omega)).1 | exact (Sp.make_leaf (n := n) (d := d) (b := true) (by omega) (by simp; omega)).2.1 | exact (Sp.make_leaf (n := n) (d := d) (b := true) (by omega) (by simp; omega)).2.2 | exact (Sp.make_leaf (n := n) (d := d) (b := false) (by omega) (by simp; omega)).1 | exact (Sp.make_leaf (n := n) (d := d) (b := false) (by omega) (by simp; omega)).2.1 | exact (Sp.make_leaf (n := n) (d := d) (b := false) (by omega) (by simp; omega)).2.2 | exact (Sp.make_leaf (n := n) (d := d) (b := (n != 0)) (by omega) (by simp; omega)).1 | exact (Sp.make_leaf (n := n) (d := d) (b := (n != 0)) (by omega) (by simp; omega)).2.1 | exact (Sp.make_leaf (n := n) (d := d) (b := (n != 0)) (by omega) (by simp; omega)).2.2))) (lcons (congrArg (Value.int .i64) (show (Sp.sgD ((n.natAbs : Int) / (Int.gcd n d : Int)) ((d.natAbs : Int) / (Int.gcd n d : Int))) = (Sp.dvd ((n : Int) : Rat) ((d : Int) : Rat)) from by (first | (rw [show d = 0 by omega]; first | exact (Sp.make_zero _).1 | exact (Sp.make_zero _).2.1 | exact (Sp.make_zero _).2.2) | exact (Sp.make_leaf (n := n) (d := d) (b := true) (by omega) (by simp; omega)).1 | exact (Sp.make_leaf (n := n) (d := d) (b := true) (by omega) (by simp; omega)).2.1 | exact (Sp.make_leaf (n := n) (d := d) (b := true) (by omega) (by simp; omega)).2.2 | exact (Sp.make_leaf (n := n) (d := d) (b := false) (by omega) (by simp; omega)).1 | exact (Sp.make_leaf (n := n) (d := d) (b := false) (by omega) (by simp; omega)).2.1 | exact (Sp.make_leaf (n := n) (d := d) (b := false) (by omega) (by simp; omega)).2.2 | exact (Sp.make_leaf (n := n) (d := d) (b := (n != 0)) (by omega) (by simp; omega)).1 | exact (Sp.make_leaf (n := n) (d := d) (b := (n != 0)) (by omega) (by simp; omega)).2.1 | exact (Sp.make_leaf (n := n) (d := d) (b := (n != 0)) (by omega) (by simp; omega)).2.2))) rfl))) (lcons (congrArg (Value.int .i64) (show (Sp.sgE ((n.natAbs : Int) / (Int.gcd n d : Int)) ((d.natAbs : Int) / (Int.gcd n d : Int))) = (Sp.dve ((n : Int) : Rat) ((d : Int) : Rat)) from by (first | (rw [show d = 0 by omega]; first | exact (Sp.make_zero _).1 | exact (Sp.make_zero _).2.1 | exact (Sp.make_zero _).2.2) | exact (Sp.make_leaf (n := n) (d := d) (b := true) (by omega) (by simp; omega)).1 | exact (Sp.make_leaf (n := n) (d := d) (b := true) (by omega) (by simp; omega)).2.1 | exact (Sp.make_leaf (n := n) (d := d) (b := true) (by omega) (by simp; omega)).2.2 | exact (Sp.make_leaf (n := n) (d := d) (b := false) (by omega) (by simp; omega)).1 | exact (Sp.make_leaf (n := n) (d := d) (b := false) (by omega) (by simp; omega)).2.1 | exact (Sp.make_leaf (n := n) (d := d) (b := false) (by omega) (by simp; omega)).2.2 | exact (Sp.make_leaf (n := n) (d := d) (b := (n != 0)) (by omega) (by simp; omega)).1 | exact (Sp.make_leaf (n := n) (d := d) (b := (n != 0)) (by omega) (by simp; omega)).2.1 | exact (Sp.make_leaf (n := n) (d := d) (b := (n != 0)) (by omega) (by simp; omega)).2.2))) rfl))))
    · have h2p : ¬ (¬ ((((n < 0)) ↔ ((d < 0))))) := by first | (simpa using h2) | (have h2q := h2; simp at h2q; omega) | (have h2q := bx4 h2; simp at h2q; omega)
      refine aw_d 63 (
        .a 4 2 <| .p (does_b false (h2)) <| .a 6 2 <|
        .p (does_int (n' := ((n.natAbs : Int) / (Int.gcd n d : Int))) (does_quo (t := 25) (t2 := 25) (x := .tmp 28) (y := .tmp 29) (k := .u64) (a := (n.natAbs : Int)) (b := (Int.gcd n d : Int)) (by kernel_rfl) (by kernel_rfl) (by kernel_rfl) ((by have := Sp.gcd_posN (n := n) (d := d) (by omega); omega))) ((show (IntKind.wrap .u64 (Int.tdiv (n.natAbs : Int) (Int.gcd n d : Int))) = ((n.natAbs : Int) / (Int.gcd n d : Int)) from Sp.uquo (by omega) (by omega) (Sp.gcd_posN (by omega))))) <|
        .a 2 2 <|
        .p (does_int (n' := ((d.natAbs : Int) / (Int.gcd n d : Int))) (does_quo (t := 25) (t2 := 25) (x := .tmp 31) (y := .tmp 32) (k := .u64) (a := (d.natAbs : Int)) (b := (Int.gcd n d : Int)) (by kernel_rfl) (by kernel_rfl) (by kernel_rfl) ((by have := Sp.gcd_posN (n := n) (d := d) (by omega); omega))) ((show (IntKind.wrap .u64 (Int.tdiv (d.natAbs : Int) (Int.gcd n d : Int))) = ((d.natAbs : Int) / (Int.gcd n d : Int)) from Sp.uquo (by omega) (by omega) (Sp.gcd_posN (by omega))))) <|
        .p (does_c (fsigned_ok false ((n.natAbs : Int) / (Int.gcd n d : Int)) ((d.natAbs : Int) / (Int.gcd n d : Int)) (by omega) (by omega) (by omega) (by omega))) <| .a 4 2 <| .nil _ _) ?_
      refine aw_rt ?_
      exact en_ret [.agg #[.int .i64 (Sp.sgN false ((n.natAbs : Int) / (Int.gcd n d : Int)) ((d.natAbs : Int) / (Int.gcd n d : Int))), .int .i64 (Sp.sgD ((n.natAbs : Int) / (Int.gcd n d : Int)) ((d.natAbs : Int) / (Int.gcd n d : Int)))], .int .i64 (Sp.sgE ((n.natAbs : Int) / (Int.gcd n d : Int)) ((d.natAbs : Int) / (Int.gcd n d : Int)))] (show (.tuple #[.agg #[.int .i64 (Sp.sgN false ((n.natAbs : Int) / (Int.gcd n d : Int)) ((d.natAbs : Int) / (Int.gcd n d : Int))), .int .i64 (Sp.sgD ((n.natAbs : Int) / (Int.gcd n d : Int)) ((d.natAbs : Int) / (Int.gcd n d : Int)))], .int .i64 (Sp.sgE ((n.natAbs : Int) / (Int.gcd n d : Int)) ((d.natAbs : Int) / (Int.gcd n d : Int)))] : Value) = (.tuple #[.agg #[.int .i64 (Sp.dvn ((n : Int) : Rat) ((d : Int) : Rat)), .int .i64 (Sp.dvd ((n : Int) : Rat) ((d : Int) : Rat))], .int .i64 (Sp.dve ((n : Int) : Rat) ((d : Int) : Rat))]) from (congrArg (fun z : List Value => Value.tuple z.toArray) (lcons (congrArg (fun z : List Value => Value.agg z.toArray) (lcons (congrArg (Value.int .i64) (show (Sp.sgN false ((n.natAbs : Int) / (Int.gcd n d : Int)) ((d.natAbs : Int) / (Int.gcd n d : Int))) = (Sp.dvn ((n : Int) : Rat) ((d : Int) : Rat)) from by (first | (rw [show d = 0 by omega]; first | exact (Sp.make_zero _).1 | exact (Sp.make_zero _).2.1 | exact (Sp.make_zero _).2.2) | exact (Sp.make_leaf (n := n) (d := d) (b := true) (by omega) (by simp; omega)).1 | exact (Sp.make_leaf (n := n) (d := d) (b := true) (by omega) (by simp; omega)).2.1 | exact (Sp.make_leaf (n := n) (d := d) (b := true) (by omega) (by simp; omega)).2.2 | exact (Sp.make_leaf (n := n) (d := d) (b := false) (by omega) (by simp; omega)).1 | exact (Sp.make_leaf (n := n) (d := d) (b := false) (by omega) (by simp; omega)).2.1 | exact (Sp.make_leaf (n := n) (d := d) (b := false) (by omega) (by simp; omega)).2.2 | exact (Sp.make_leaf (n := n) (d := d) (b := (n != 0)) (by omega) (by simp; omega)).1 | exact (Sp.make_leaf (n := n) (d := d) (b := (n != 0)) (by omega) (by simp; omega)).2.1 | exact (Sp.make_leaf (n := n) (d := d) (b := (n != 0)) (by omega) (by simp; omega)).2.2))) (lcons (congrArg (Value.int .i64) (show (Sp.sgD ((n.natAbs : Int) / (Int.gcd n d : Int)) ((d.natAbs : Int) / (Int.gcd n d : Int))) = (Sp.dvd ((n : Int) : Rat) ((d : Int) : Rat)) from by (first | (rw [show d = 0 by omega]; first | exact (Sp.make_zero _).1 | exact (Sp.make_zero _).2.1 | exact (Sp.make_zero _).2.2) | exact (Sp.make_leaf (n := n) (d := d) (b := true) (by omega) (by simp; omega)).1 | exact (Sp.make_leaf (n := n) (d := d) (b := true) (by omega) (by simp; omega)).2.1 | exact (Sp.make_leaf (n := n) (d := d) (b := true) (by omega) (by simp; omega)).2.2 | exact (Sp.make_leaf (n := n) (d := d) (b := false) (by omega) (by simp; omega)).1 | exact (Sp.make_leaf (n := n) (d := d) (b := false) (by omega) (by simp; omega)).2.1 | exact (Sp.make_leaf (n := n) (d := d) (b := false) (by omega) (by simp; omega)).2.2 | exact (Sp.make_leaf (n := n) (d := d) (b := (n != 0)) (by omega) (by simp; omega)).1 | exact (Sp.make_leaf (n := n) (d := d) (b := (n != 0)) (by omega) (by simp; omega)).2.1 | exact (Sp.make_leaf (n := n) (d := d) (b := (n != 0)) (by omega) (by simp; omega)).2.2))) rfl))) (lcons (congrArg (Value.int .i64) (show (Sp.sgE ((n.natAbs : Int) / (Int.gcd n d : Int)) ((d.natAbs : Int) / (Int.gcd n d : Int))) = (Sp.dve ((n : Int) : Rat) ((d : Int) : Rat)) from by (first | (rw [show d = 0 by omega]; first | exact (Sp.make_zero _).1 | exact (Sp.make_zero _).2.1 | exact (Sp.make_zero _).2.2) | exact (Sp.make_leaf (n := n) (d := d) (b := true) (by omega) (by simp; omega)).1 | exact (Sp.make_leaf (n := n) (d := d) (b := true) (by omega) (by simp; omega)).2.1 | exact (Sp.make_leaf (n := n) (d := d) (b := true) (by omega) (by simp; omega)).2.2 | exact (Sp.make_leaf (n := n) (d := d) (b := false) (by omega) (by simp; omega)).1 | exact (Sp.make_leaf (n := n) (d := d) (b := false) (by omega) (by simp; omega)).2.1 | exact (Sp.make_leaf (n := n) (d := d) (b := false) (by omega) (by simp; omega)).2.2 | exact (Sp.make_leaf (n := n) (d := d) (b := (n != 0)) (by omega) (by simp; omega)).1 | exact (Sp.make_leaf (n := n) (d := d) (b := (n != 0)) (by omega) (by simp; omega)).2.1 | exact (Sp.make_leaf (n := n) (d := d) (b := (n != 0)) (by omega) (by simp; omega)).2.2))) rfl))))

theorem fof_ok (n : Int) :
    AC Tryd.prog 19 0 ([.int .i64 n]) [] (.agg #[.int .i64 (Sp.mx n (-9223372036854775807)), .int .i64 1]) [] := by
  refine ac_in Tryd.func19 (fun w0 W pin => ?_)
  refine aw_p 3 (
    .a 1 1 <| .nil _ _) ?_
  refine aw_p 7 (
    .a 4 2 <| .nil _ _) ?_
  refine aw_rt ?_
  exact en_ret [.agg #[.int .i64 (Sp.mx n (-9223372036854775807)), .int .i64 1]] (by kernel_rfl)

theorem fparts_ok (n d : Int) (z0 : -9223372036854775807 ≤ n) (z1 : n ≤ 9223372036854775807) (z2 : 0 < d) (z3 : d ≤ 9223372036854775807) :
    AC Tryd.prog 34 0 ([.agg #[.int .i64 n, .int .i64 d]]) [] (.tuple #[.int .i64 (n / d), .int .i64 (n % d)]) [] := by
  refine ac_in Tryd.func34 (fun w0 W pin => ?_)
  refine aw_p 3 (
    .a 3 1 <| .nil _ _) ?_
  refine aw_d 7 (
    .a 4 2 <|
    .p (does_int (n' := Int.tdiv n d) (does_quo (t := 3) (t2 := 3) (x := .tmp 7) (y := .tmp 9) (k := .i64) (a := n) (b := d) (by kernel_rfl) (by kernel_rfl) (by kernel_rfl) (by omega)) ((show (IntKind.wrap .i64 (Int.tdiv n d)) = (Int.tdiv n d) from (wrap_i64 (Sp.tdiv_bd z2 (by omega) (by omega)).1 (Sp.tdiv_bd z2 (by omega) (by omega)).2)))) <|
    .a 4 2 <| .p (does_rem (t := 3) (t2 := 3) (x := .tmp 12) (y := .tmp 14) (k := .i64) (a := n) (b := d) (by kernel_rfl) (by kernel_rfl) (by kernel_rfl) (by omega)) <| .a 2 2 <| .nil _ _) ?_
  refine aw_sq 14 15 ?_
  refine aw_p 29 (
    .a 2 2 <| .nil _ _) ?_
  refine aw_cd 58 59 (decide ((Int.tmod n d) < 0)) (fun h1 => ?_) (fun h1 => ?_)
  · have h1p : (((Int.tmod n d) < 0)) := by first | (simpa using h1) | (have h1q := h1; simp at h1q; omega) | (have h1q := bx1 h1; simp at h1q; omega)
    refine aw_d 117 (
      .a 1 2 <| .p (does_i (n / d) ((show (IntKind.wrap .i64 ((Int.tdiv n d) - 1)) = (n / d) from (by have q := Sp.tdiv_neg' z2 (by omega); have b := Sp.ediv_bd z2 z0 z1; rw [q.1]; exact wrap_i64 (by omega) (by omega)))) .i64) <| .a 3 2 <|
      .p (does_i (n % d) ((show (IntKind.wrap .i64 ((Int.tmod n d) + d)) = (n % d) from (by have q := Sp.tdiv_neg' z2 (by omega); have b := Sp.emod_lt (a := n) z2; rw [q.2]; exact wrap_i64 (by omega) (by omega)))) .i64) <| .a 2 2 <| .nil _ _) ?_
    refine aw_rt ?_
    refine then_ret ?_
    exact en_ret [.int .i64 (n / d), .int .i64 (n % d)] (by kernel_rfl)
  · have h1p : ¬ (((Int.tmod n d) < 0)) := by first | (simpa using h1) | (have h1q := h1; simp at h1q; omega) | (have h1q := bx2 h1; simp at h1q; omega)
    refine aw_sk ?_
    refine then_normal ?_
    refine aw_p 31 (
      .a 4 2 <| .nil _ _) ?_
    refine aw_rt ?_
    exact en_ret [.int .i64 (Int.tdiv n d), .int .i64 (Int.tmod n d)] (show (.tuple #[.int .i64 (Int.tdiv n d), .int .i64 (Int.tmod n d)] : Value) = (.tuple #[.int .i64 (n / d), .int .i64 (n % d)]) from (congrArg (fun z : List Value => Value.tuple z.toArray) (lcons (congrArg (Value.int .i64) (show (Int.tdiv n d) = (n / d) from by (first | exact (Sp.tdiv_pos' z2 (by omega)).1 | exact (Sp.tdiv_pos' z2 (by omega)).2))) (lcons (congrArg (Value.int .i64) (show (Int.tmod n d) = (n % d) from by (first | exact (Sp.tdiv_pos' z2 (by omega)).1 | exact (Sp.tdiv_pos' z2 (by omega)).2))) rfl))))

theorem ffloor_ok (n1 d1 : Int) (zln1 : -9223372036854775808 ≤ n1) (zun1 : n1 ≤ 9223372036854775807) (zld1 : -9223372036854775808 ≤ d1) (zud1 : d1 ≤ 9223372036854775807) :
    AC Tryd.prog 15 0 ([.agg #[.int .i64 n1, .int .i64 d1]]) [] (.int .i64 ((Sp.rv n1 d1).floor)) [] := by
  have fn1 := Sp.fn_bd (d := d1) zln1 zun1; have fd1 := Sp.fd_bd (n := n1) zud1
  refine ac_in Tryd.func15 (fun w0 W pin => ?_)
  refine aw_p 3 (
    .a 2 1 <| .nil _ _) ?_
  refine aw_p 7 (
    .a 1 2 <| .p (does_c (ffit_ok n1 d1 (by omega) (by omega) (by omega) (by omega))) <| .p (does_c (fparts_ok (Sp.fn n1 d1) (Sp.fd n1 d1) (by omega) (by omega) (by omega) (by omega))) <| .a 5 2 <| .nil _ _) ?_
  refine aw_p 15 (
    .a 2 2 <| .nil _ _) ?_
  refine aw_rt ?_
  exact en_ret [.int .i64 ((Sp.fn n1 d1) / (Sp.fd n1 d1))] (show (.int .i64 ((Sp.fn n1 d1) / (Sp.fd n1 d1)) : Value) = (.int .i64 ((Sp.rv n1 d1).floor)) from (congrArg (Value.int .i64) (show ((Sp.fn n1 d1) / (Sp.fd n1 d1)) = ((Sp.rv n1 d1).floor) from by exact (Sp.rv_floor _ _).symm)))

theorem fround_ok (n1 d1 : Int) (zln1 : -9223372036854775808 ≤ n1) (zun1 : n1 ≤ 9223372036854775807) (zld1 : -9223372036854775808 ≤ d1) (zud1 : d1 ≤ 9223372036854775807) :
    AC Tryd.prog 16 0 ([.agg #[.int .i64 n1, .int .i64 d1]]) [] (.int .i64 (Sp.rnd (Sp.rv n1 d1))) [] := by
  have fn1 := Sp.fn_bd (d := d1) zln1 zun1; have fd1 := Sp.fd_bd (n := n1) zud1; have e := Sp.emod_lt (a := Sp.fn n1 d1) (b := Sp.fd n1 d1) (by omega); have fl := Sp.rv_floor n1 d1; have fq := Sp.floor_bd (b := d1) zln1 zun1
  refine ac_in Tryd.func16 (fun w0 W pin => ?_)
  refine aw_p 3 (
    .a 2 1 <| .nil _ _) ?_
  refine aw_p 7 (
    .a 1 2 <| .p (does_c (ffit_ok n1 d1 (by omega) (by omega) (by omega) (by omega))) <| .a 1 2 <| .nil _ _) ?_
  refine aw_p 15 (
    .a 1 2 <| .p (does_c (fparts_ok (Sp.fn n1 d1) (Sp.fd n1 d1) (by omega) (by omega) (by omega) (by omega))) <| .a 5 2 <| .nil _ _) ?_
  refine aw_sq 30 31 ?_
  refine aw_p 61 (
    .a 4 2 <| .p (does_i ((Sp.fd n1 d1) - ((Sp.fn n1 d1) % (Sp.fd n1 d1))) (wrap_i64 (by omega) (by omega)) .i64) <| .a 1 2 <| .nil _ _) ?_
  refine aw_cd 122 123 (decide (((Sp.fn n1 d1) % (Sp.fd n1 d1)) ≥ ((Sp.fd n1 d1) - ((Sp.fn n1 d1) % (Sp.fd n1 d1))))) (fun h1 => ?_) (fun h1 => ?_)
  · have h1p : ((((Sp.fn n1 d1) % (Sp.fd n1 d1)) ≥ ((Sp.fd n1 d1) - ((Sp.fn n1 d1) % (Sp.fd n1 d1))))) := by first | (simpa using h1) | (have h1q := h1; simp at h1q; omega) | (have h1q := bx1 h1; simp at h1q; omega)
    refine aw_p1 (
      .a 1 2 <| .p (does_i (((Sp.fn n1 d1) / (Sp.fd n1 d1)) + 1) (wrap_i64 (by omega) (by have := Sp.up_bd (b := d1) zln1 zun1 (by omega); omega)) .i64) <| .a 1 2 <| .nil _ _) ?_
    refine then_normal ?_
    refine aw_p 63 (
      .a 2 2 <| .nil _ _) ?_
    refine aw_rt ?_
    exact en_ret [.int .i64 (((Sp.fn n1 d1) / (Sp.fd n1 d1)) + 1)] (show (.int .i64 (((Sp.fn n1 d1) / (Sp.fd n1 d1)) + 1) : Value) = (.int .i64 (Sp.rnd (Sp.rv n1 d1))) from (congrArg (Value.int .i64) (show (((Sp.fn n1 d1) / (Sp.fd n1 d1)) + 1) = (Sp.rnd (Sp.rv n1 d1)) from by (rw [Sp.rnd_rv]; first | (rw [if_pos (by omega)]; omega) | (rw [if_neg (by omega)]; omega)))))
  · have h1p : ¬ ((((Sp.fn n1 d1) % (Sp.fd n1 d1)) ≥ ((Sp.fd n1 d1) - ((Sp.fn n1 d1) % (Sp.fd n1 d1))))) := by first | (simpa using h1) | (have h1q := h1; simp at h1q; omega) | (have h1q := bx2 h1; simp at h1q; omega)
    refine aw_sk ?_
    refine then_normal ?_
    refine aw_p 63 (
      .a 2 2 <| .nil _ _) ?_
    refine aw_rt ?_
    exact en_ret [.int .i64 ((Sp.fn n1 d1) / (Sp.fd n1 d1))] (show (.int .i64 ((Sp.fn n1 d1) / (Sp.fd n1 d1)) : Value) = (.int .i64 (Sp.rnd (Sp.rv n1 d1))) from (congrArg (Value.int .i64) (show ((Sp.fn n1 d1) / (Sp.fd n1 d1)) = (Sp.rnd (Sp.rv n1 d1)) from by (rw [Sp.rnd_rv]; first | (rw [if_pos (by omega)]; omega) | (rw [if_neg (by omega)]; omega)))))

theorem terrlaw1_fracBegun_ok  :
    AC Tryd.prog 5 0 ([]) [] (.bool true) [] := by
  refine ac_in Tryd.func5 (fun w0 W pin => ?_)
  refine aw_p 3 (
    .a 1 1 <| .nil _ _) ?_
  refine aw_p 7 (
    .p (does_c (fmake_ok 2 (-4) (by decide) (by decide) (by decide) (by decide))) <| .a 6 1 <| .nil _ _) ?_
  refine aw_p 15 (
    .a 1 2 <| .p (does_b true ((show ((Sp.dve ((2 : Int) : Rat) (((-4) : Int) : Rat)) == 0) = true from (by kernel_rfl)))) <| .a 3 2 <|
    .p (does_e true ((show (((Sp.dvn ((2 : Int) : Rat) (((-4) : Int) : Rat)) == (-1)) && (((Sp.dvd ((2 : Int) : Rat) (((-4) : Int) : Rat)) == 2) && true)) = true from (by kernel_rfl)))) <| .a 3 2 <|
    .p (does_cb _ (fgood_ok (Sp.dvn ((2 : Int) : Rat) (((-4) : Int) : Rat)) (Sp.dvd ((2 : Int) : Rat) (((-4) : Int) : Rat)) (by decide +kernel) (by decide +kernel) (by decide +kernel) (by decide +kernel)) true ((show (Sp.gd (Sp.dvn ((2 : Int) : Rat) (((-4) : Int) : Rat)) (Sp.dvd ((2 : Int) : Rat) (((-4) : Int) : Rat))) = true from (by kernel_rfl)))) <|
    .a 2 2 <| .nil _ _) ?_
  refine aw_rt ?_
  exact en_ret [.bool true] (by kernel_rfl)

theorem terrkeep1_fracBegun_ok  :
    AC Tryd.prog 13 0 ([]) [] (.bool true) [] := by
  refine ac_in Tryd.func13 (fun w0 W pin => ?_)
  refine aw_p 3 (
    .a 1 1 <| .nil _ _) ?_
  refine aw_p 7 (
    .p (does_c (fmake_ok 2 (-4) (by decide) (by decide) (by decide) (by decide))) <| .a 6 1 <| .nil _ _) ?_
  refine aw_p 15 (
    .a 1 2 <| .p (does_b true ((show ((Sp.dve ((2 : Int) : Rat) (((-4) : Int) : Rat)) == 0) = true from (by kernel_rfl)))) <| .a 3 2 <|
    .p (does_e true ((show (((Sp.dvn ((2 : Int) : Rat) (((-4) : Int) : Rat)) == (-1)) && (((Sp.dvd ((2 : Int) : Rat) (((-4) : Int) : Rat)) == 2) && true)) = true from (by kernel_rfl)))) <| .a 3 2 <|
    .p (does_cb _ (fgood_ok (Sp.dvn ((2 : Int) : Rat) (((-4) : Int) : Rat)) (Sp.dvd ((2 : Int) : Rat) (((-4) : Int) : Rat)) (by decide +kernel) (by decide +kernel) (by decide +kernel) (by decide +kernel)) true ((show (Sp.gd (Sp.dvn ((2 : Int) : Rat) (((-4) : Int) : Rat)) (Sp.dvd ((2 : Int) : Rat) (((-4) : Int) : Rat))) = true from (by kernel_rfl)))) <|
    .a 2 2 <| .nil _ _) ?_
  refine aw_rt ?_
  exact en_ret [.bool true] (by kernel_rfl)


end Go.Proofs.YtngmegnaohmapaaDoor.Am
