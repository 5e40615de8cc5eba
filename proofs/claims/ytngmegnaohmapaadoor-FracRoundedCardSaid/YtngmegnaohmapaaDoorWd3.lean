/-
  The walks of the document's words of 128 bits.
-/
import Derived.Test.YtngmegnaohmapaaDoorProg
import Derived.Test.YtngmegnaohmapaaDoorAm16
import Derived.Test.YtngmegnaohmapaaDoorWd2
namespace Go.Proofs.YtngmegnaohmapaaDoor.Am
open Go Go.Proofs
set_option maxRecDepth 100000
set_option maxHeartbeats 4000000
set_option linter.unusedVariables false
set_option linter.unusedSimpArgs false

theorem wdiv_ok (a n : Int) (zla : -170141183460469231731687303715884105728 ≤ a) (zua : a < 170141183460469231731687303715884105728) (zp : 1 ≤ n) (zq : n ≤ 9223372036854775807) :
    AC Tryd.prog 53 0 ([.agg #[.int .i64 (Sp.wh a), .int .u64 (Sp.wl a)], .int .i64 n]) [] (.tuple #[.agg #[.int .i64 (Sp.wh (a / n)), .int .u64 (Sp.wl (a / n))], .int .i64 (a % n), .int .i64 0]) [] := by
  have wla := Sp.wl_bd a; have wha := Sp.wh_bd a; have wia := Sp.wh_id zla zua; have wma : Sp.wl a = a % 18446744073709551616 := rfl
  refine ac_in Tryd.func53 (fun w0 W pin => ?_)
  refine aw_p 3 (
    .a 4 1 <| .nil _ _) ?_
  refine aw_sq 6 7 ?_
  refine aw_p 13 (
    .a 1 3 <| .p (does_b false ((show (decide (n < 1)) = false from decide_eq_false (by omega)))) <| .nil _ _) ?_
  refine aw_fl 27 ?_
  refine aw_sk ?_
  refine then_normal ?_
  refine aw_p 15 (
    .a 2 3 <| .p (does_b (decide (a < 0)) (Sp.wh_neg zla zua)) <| .a 1 3 <| .nil _ _) ?_
  refine aw_sq 30 31 ?_
  refine aw_p 61 (
    .a 1 3 <| .nil _ _) ?_
  refine aw_cd 122 123 (decide (a < 0)) (fun h1 => ?_) (fun h1 => ?_)
  · have h1p : ((a < 0)) := by first | (simpa using h1) | (have h1q := h1; simp at h1q; omega) | (have h1q := bx1 h1; simp at h1q; omega)
    refine aw_p1 (
      .a 2 3 <| .p (does_i (Sp.wh (-1 - a)) ((show (IntKind.wrap .i64 ((BitVec.ofInt 64 (-1) ^^^ BitVec.ofInt 64 (Sp.wh a)).toNat : Int)) = (Sp.wh (-1 - a)) from (Sp.xor_i64 (by omega) (by omega)).trans (Sp.wh_compl a))) .i64) <| .a 2 3 <|
      .p (does_i (Sp.wl (-1 - a)) ((show (IntKind.wrap .u64 ((BitVec.ofInt 64 18446744073709551615 ^^^ BitVec.ofInt 64 (Sp.wl a)).toNat : Int)) = (Sp.wl (-1 - a)) from (Sp.xor_u64 (by omega) (by omega)).trans (Sp.wl_compl a))) .u64) <| .a 2 3 <| .nil _ _) ?_
    refine then_normal ?_
    refine aw_gen (fun z : Int => (fun (e : Int) => mkSt 0 [(1, .int .i64 n), (2, .pointer (some ⟨1, 0, none⟩)), (4, .pointer (some ⟨2, 0, none⟩)), (5, .int .i64 0), (6, .int .i64 0), (7, .bool (decide (a < 0)))] [(1, ⟨[.int .i64 (Sp.wh e), .int .u64 (Sp.wl e)], 68, true, 2⟩), (2, ⟨[.int .i64 0, .int .u64 0], 68, true, 2⟩)]) z) (fun z : Int => (fun (e : Int) => (0 ≤ e) ∧ (e < 170141183460469231731687303715884105728) ∧ ((a < 0 → a = -1 - e) ∧ (¬ a < 0 → a = e))) z) ((-1 - a)) (show (0 ≤ (-1 - a)) ∧ ((-1 - a) < 170141183460469231731687303715884105728) ∧ ((a < 0 → a = -1 - (-1 - a)) ∧ (¬ a < 0 → a = (-1 - a))) from ⟨by omega, by omega, by omega⟩) [(1, .int .i64 n), (2, .pointer (some ⟨1, 0, none⟩)), (4, .pointer (some ⟨2, 0, none⟩)), (5, .int .i64 0), (6, .int .i64 0), (7, .bool (decide (a < 0)))] [(1, ⟨[.int .i64 (Sp.wh (-1 - a)), .int .u64 (Sp.wl (-1 - a))], 68, true, 2⟩), (2, ⟨[.int .i64 0, .int .u64 0], 68, true, 2⟩)] (fun z hz => ?_)
    obtain ⟨e, hv⟩ : ∃ y, y = z := ⟨z, rfl⟩; subst hv
    have hz' : (0 ≤ e) ∧ (e < 170141183460469231731687303715884105728) ∧ ((a < 0 → a = -1 - e) ∧ (¬ a < 0 → a = e)) := hz
    obtain ⟨e0, e1, e2⟩ := hz'
    clear hz
    obtain ⟨l1, l2, l3⟩ := Sp.ldiv (e := e) (n := n) e0 (by omega) zq
    have wie := Sp.wh_id (n := e) (by omega) e1
    have wle := Sp.wl_bd e
    have m1 := Sp.emod_lt (a := e / 18446744073709551616) (b := n) (by omega)
    have m2 := Sp.emod_lt (a := e) (b := n) (by omega)
    have q1 := Sp.div_low (e := e / 18446744073709551616) (n := n) (M := 9223372036854775807) (by omega) (by omega) (by omega)
    have wbq := Sp.wh_bd (e / n)
    have wlq := Sp.wl_bd (e / n)
    have nd := Sp.neg_div' (e := e) (n := n) (by omega)
    show AW _ _ _ (mkSt 0 [(1, .int .i64 n), (2, .pointer (some ⟨1, 0, none⟩)), (4, .pointer (some ⟨2, 0, none⟩)), (5, .int .i64 0), (6, .int .i64 0), (7, .bool (decide (a < 0)))] [(1, ⟨[.int .i64 (Sp.wh e), .int .u64 (Sp.wl e)], 68, true, 2⟩), (2, ⟨[.int .i64 0, .int .u64 0], 68, true, 2⟩)]) _
    refine aw_d 63 (
      .a 2 3 <| .p (does_i (e / 18446744073709551616) ((show (IntKind.wrap .u64 (Sp.wh e)) = (e / 18446744073709551616) from (by rw [IntKind.wrap_u64]; omega))) .u64) <| .a 1 3 <| .p (does_i n (wrap_u64 (by omega) (by omega)) .u64) <|
      .p (does_int (n' := e / n / 18446744073709551616) (does_quo (t := 25) (t2 := 25) (x := .tmp 27) (y := .tmp 29) (k := .u64) (a := (e / 18446744073709551616)) (b := n) (by kernel_rfl) (by kernel_rfl) (by kernel_rfl) ((by omega))) ((show (IntKind.wrap .u64 (Int.tdiv (e / 18446744073709551616) n)) = (e / n / 18446744073709551616) from (Sp.uquo (by omega) (by omega) (by omega)).trans l1))) <|
      .a 2 3 <| .p (does_i (e / 18446744073709551616) ((show (IntKind.wrap .u64 (Sp.wh e)) = (e / 18446744073709551616) from (by rw [IntKind.wrap_u64]; omega))) .u64) <| .a 1 3 <| .p (does_i n (wrap_u64 (by omega) (by omega)) .u64) <|
      .p (does_int (n' := e / 18446744073709551616 % n) (does_rem (t := 25) (t2 := 25) (x := .tmp 33) (y := .tmp 35) (k := .u64) (a := (e / 18446744073709551616)) (b := n) (by kernel_rfl) (by kernel_rfl) (by kernel_rfl) ((by omega))) ((show (Int.tmod (e / 18446744073709551616) n) = (e / 18446744073709551616 % n) from Sp.umod (by omega)))) <|
      .a 2 3 <| .nil _ _) ?_
    refine aw_p 127 (
      .a 4 3 <| .p (does_i n (wrap_u64 (by omega) (by omega)) .u64) <| .p (does_c (div64_ok (e / 18446744073709551616 % n) (Sp.wl e) n (by omega) (by omega) (by omega) (by omega) (by omega))) <| .a 1 3 <| .p (does_i (Sp.wl (e / n)) (l2) .u64) <| .p (does_i (e % n) (l3) .u64) <| .a 2 3 <| .nil _ _) ?_
    refine aw_sq 254 255 ?_
    refine aw_p 509 (
      .p (does_b true (h1)) <| .nil _ _) ?_
    refine aw_tr 1018 ?_
    refine aw_p 2037 (
      .a 1 3 <| .p (does_i (Sp.wh (e / n)) (Sp.s64_any _) .i64) <| .p (does_i (Sp.wh (-1 - e / n)) ((show (IntKind.wrap .i64 ((BitVec.ofInt 64 (-1) ^^^ BitVec.ofInt 64 (Sp.wh (e / n))).toNat : Int)) = (Sp.wh (-1 - e / n)) from (Sp.xor_i64 (by omega) (by omega)).trans (Sp.wh_compl _))) .i64) <| .a 1 3 <|
      .p (does_i (Sp.wl (-1 - e / n)) ((show (IntKind.wrap .u64 ((BitVec.ofInt 64 18446744073709551615 ^^^ BitVec.ofInt 64 (Sp.wl (e / n))).toNat : Int)) = (Sp.wl (-1 - e / n)) from (Sp.xor_u64 (by omega) (by omega)).trans (Sp.wl_compl _))) .u64) <| .a 2 3 <|
      .p (does_i (n - 1) (wrap_i64 (by omega) (by omega)) .i64) <| .a 1 3 <| .p (does_i (e % n) (wrap_i64 (by omega) (by omega)) .i64) <| .p (does_i ((n - 1) - (e % n)) (wrap_i64 (by omega) (by omega)) .i64) <| .a 3 3 <| .nil _ _) ?_
    refine aw_rt ?_
    refine then_ret ?_
    exact en_ret [.agg #[.int .i64 (Sp.wh (-1 - e / n)), .int .u64 (Sp.wl (-1 - e / n))], .int .i64 ((n - 1) - (e % n)), .int .i64 0] (show (.tuple #[.agg #[.int .i64 (Sp.wh (-1 - e / n)), .int .u64 (Sp.wl (-1 - e / n))], .int .i64 ((n - 1) - (e % n)), .int .i64 0] : Value) = (.tuple #[.agg #[.int .i64 (Sp.wh (a / n)), .int .u64 (Sp.wl (a / n))], .int .i64 (a % n), .int .i64 0]) from (congrArg (fun z : List Value => Value.tuple z.toArray) (lcons (congrArg (fun z : List Value => Value.agg z.toArray) (lcons (congrArg (Value.int .i64) (show (Sp.wh (-1 - e / n)) = (Sp.wh (a / n)) from by (first | (rw [show a = -1 - e by omega, nd.1]) | (rw [show a = -1 - e by omega, nd.2]) | (rw [show a = e by omega])))) (lcons (congrArg (Value.int .u64) (show (Sp.wl (-1 - e / n)) = (Sp.wl (a / n)) from by (first | (rw [show a = -1 - e by omega, nd.1]) | (rw [show a = -1 - e by omega, nd.2]) | (rw [show a = e by omega])))) rfl))) (lcons (congrArg (Value.int .i64) (show ((n - 1) - (e % n)) = (a % n) from by (first | (rw [show a = -1 - e by omega, nd.1]) | (rw [show a = -1 - e by omega, nd.2]) | (rw [show a = e by omega])))) (lcons rfl rfl)))))
  · have h1p : ¬ ((a < 0)) := by first | (simpa using h1) | (have h1q := h1; simp at h1q; omega) | (have h1q := bx2 h1; simp at h1q; omega)
    refine aw_sk ?_
    refine then_normal ?_
    refine aw_gen (fun z : Int => (fun (e : Int) => mkSt 0 [(1, .int .i64 n), (2, .pointer (some ⟨1, 0, none⟩)), (4, .pointer (some ⟨2, 0, none⟩)), (5, .int .i64 0), (6, .int .i64 0), (7, .bool (decide (a < 0)))] [(1, ⟨[.int .i64 (Sp.wh e), .int .u64 (Sp.wl e)], 68, true, 2⟩), (2, ⟨[.int .i64 0, .int .u64 0], 68, true, 2⟩)]) z) (fun z : Int => (fun (e : Int) => (0 ≤ e) ∧ (e < 170141183460469231731687303715884105728) ∧ ((a < 0 → a = -1 - e) ∧ (¬ a < 0 → a = e))) z) (a) (show (0 ≤ a) ∧ (a < 170141183460469231731687303715884105728) ∧ ((a < 0 → a = -1 - a) ∧ (¬ a < 0 → a = a)) from ⟨by omega, by omega, by omega⟩) [(1, .int .i64 n), (2, .pointer (some ⟨1, 0, none⟩)), (4, .pointer (some ⟨2, 0, none⟩)), (5, .int .i64 0), (6, .int .i64 0), (7, .bool (decide (a < 0)))] [(1, ⟨[.int .i64 (Sp.wh a), .int .u64 (Sp.wl a)], 68, true, 2⟩), (2, ⟨[.int .i64 0, .int .u64 0], 68, true, 2⟩)] (fun z hz => ?_)
    obtain ⟨e, hv⟩ : ∃ y, y = z := ⟨z, rfl⟩; subst hv
    have hz' : (0 ≤ e) ∧ (e < 170141183460469231731687303715884105728) ∧ ((a < 0 → a = -1 - e) ∧ (¬ a < 0 → a = e)) := hz
    obtain ⟨e0, e1, e2⟩ := hz'
    clear hz
    obtain ⟨l1, l2, l3⟩ := Sp.ldiv (e := e) (n := n) e0 (by omega) zq
    have wie := Sp.wh_id (n := e) (by omega) e1
    have wle := Sp.wl_bd e
    have m1 := Sp.emod_lt (a := e / 18446744073709551616) (b := n) (by omega)
    have m2 := Sp.emod_lt (a := e) (b := n) (by omega)
    have q1 := Sp.div_low (e := e / 18446744073709551616) (n := n) (M := 9223372036854775807) (by omega) (by omega) (by omega)
    have wbq := Sp.wh_bd (e / n)
    have wlq := Sp.wl_bd (e / n)
    have nd := Sp.neg_div' (e := e) (n := n) (by omega)
    show AW _ _ _ (mkSt 0 [(1, .int .i64 n), (2, .pointer (some ⟨1, 0, none⟩)), (4, .pointer (some ⟨2, 0, none⟩)), (5, .int .i64 0), (6, .int .i64 0), (7, .bool (decide (a < 0)))] [(1, ⟨[.int .i64 (Sp.wh e), .int .u64 (Sp.wl e)], 68, true, 2⟩), (2, ⟨[.int .i64 0, .int .u64 0], 68, true, 2⟩)]) _
    refine aw_d 63 (
      .a 2 3 <| .p (does_i (e / 18446744073709551616) ((show (IntKind.wrap .u64 (Sp.wh e)) = (e / 18446744073709551616) from (by rw [IntKind.wrap_u64]; omega))) .u64) <| .a 1 3 <| .p (does_i n (wrap_u64 (by omega) (by omega)) .u64) <|
      .p (does_int (n' := e / n / 18446744073709551616) (does_quo (t := 25) (t2 := 25) (x := .tmp 27) (y := .tmp 29) (k := .u64) (a := (e / 18446744073709551616)) (b := n) (by kernel_rfl) (by kernel_rfl) (by kernel_rfl) ((by omega))) ((show (IntKind.wrap .u64 (Int.tdiv (e / 18446744073709551616) n)) = (e / n / 18446744073709551616) from (Sp.uquo (by omega) (by omega) (by omega)).trans l1))) <|
      .a 2 3 <| .p (does_i (e / 18446744073709551616) ((show (IntKind.wrap .u64 (Sp.wh e)) = (e / 18446744073709551616) from (by rw [IntKind.wrap_u64]; omega))) .u64) <| .a 1 3 <| .p (does_i n (wrap_u64 (by omega) (by omega)) .u64) <|
      .p (does_int (n' := e / 18446744073709551616 % n) (does_rem (t := 25) (t2 := 25) (x := .tmp 33) (y := .tmp 35) (k := .u64) (a := (e / 18446744073709551616)) (b := n) (by kernel_rfl) (by kernel_rfl) (by kernel_rfl) ((by omega))) ((show (Int.tmod (e / 18446744073709551616) n) = (e / 18446744073709551616 % n) from Sp.umod (by omega)))) <|
      .a 2 3 <| .nil _ _) ?_
    refine aw_p 127 (
      .a 4 3 <| .p (does_i n (wrap_u64 (by omega) (by omega)) .u64) <| .p (does_c (div64_ok (e / 18446744073709551616 % n) (Sp.wl e) n (by omega) (by omega) (by omega) (by omega) (by omega))) <| .a 1 3 <| .p (does_i (Sp.wl (e / n)) (l2) .u64) <| .p (does_i (e % n) (l3) .u64) <| .a 2 3 <| .nil _ _) ?_
    refine aw_sq 254 255 ?_
    refine aw_p 509 (
      .p (does_b false (h1)) <| .nil _ _) ?_
    refine aw_fl 1019 ?_
    refine aw_sk ?_
    refine then_normal ?_
    refine aw_p 511 (
      .a 1 3 <| .p (does_i (Sp.wh (e / n)) (Sp.s64_any _) .i64) <| .a 3 3 <| .p (does_i (e % n) (wrap_i64 (by omega) (by omega)) .i64) <| .a 3 3 <| .nil _ _) ?_
    refine aw_rt ?_
    exact en_ret [.agg #[.int .i64 (Sp.wh (e / n)), .int .u64 (Sp.wl (e / n))], .int .i64 (e % n), .int .i64 0] (show (.tuple #[.agg #[.int .i64 (Sp.wh (e / n)), .int .u64 (Sp.wl (e / n))], .int .i64 (e % n), .int .i64 0] : Value) = (.tuple #[.agg #[.int .i64 (Sp.wh (a / n)), .int .u64 (Sp.wl (a / n))], .int .i64 (a % n), .int .i64 0]) from (congrArg (fun z : List Value => Value.tuple z.toArray) (lcons (congrArg (fun z : List Value => Value.agg z.toArray) (lcons (congrArg (Value.int .i64) (show (Sp.wh (e / n)) = (Sp.wh (a / n)) from by (first | (rw [show a = -1 - e by omega, nd.1]) | (rw [show a = -1 - e by omega, nd.2]) | (rw [show a = e by omega])))) (lcons (congrArg (Value.int .u64) (show (Sp.wl (e / n)) = (Sp.wl (a / n)) from by (first | (rw [show a = -1 - e by omega, nd.1]) | (rw [show a = -1 - e by omega, nd.2]) | (rw [show a = e by omega])))) rfl))) (lcons (congrArg (Value.int .i64) (show (e % n) = (a % n) from by (first | (rw [show a = -1 - e by omega, nd.1]) | (rw [show a = -1 - e by omega, nd.2]) | (rw [show a = e by omega])))) (lcons rfl rfl)))))

theorem wdiv0_ok (a n : Int) (zp : n < 1) :
    AC Tryd.prog 53 0 ([.agg #[.int .i64 (Sp.wh a), .int .u64 (Sp.wl a)], .int .i64 n]) [] (.tuple #[.agg #[.int .i64 0, .int .u64 0], .int .i64 0, .int .i64 1]) [] := by
  refine ac_in Tryd.func53 (fun w0 W pin => ?_)
  refine aw_p 3 (
    .a 4 1 <| .nil _ _) ?_
  refine aw_sq 6 7 ?_
  refine aw_p 13 (
    .a 1 3 <| .p (does_b true ((show (decide (n < 1)) = true from decide_eq_true (by omega)))) <| .nil _ _) ?_
  refine aw_tr 26 ?_
  refine aw_p 53 (
    .a 4 3 <| .nil _ _) ?_
  refine aw_rt ?_
  refine then_ret ?_
  exact en_ret [.agg #[.int .i64 0, .int .u64 0], .int .i64 0, .int .i64 1] (by kernel_rfl)

theorem lwide_ok (a : Int) (zla : -170141183460469231731687303715884105728 ≤ a) (zua : a < 170141183460469231731687303715884105728) :
    AC Tryd.prog 65 0 ([.agg #[.int .i64 (Sp.wh a), .int .u64 (Sp.wl a)]]) [] (lval a) [] := by
  have wla := Sp.wl_bd a; have wha := Sp.wh_bd a; have wia := Sp.wh_id zla zua; have wma : Sp.wl a = a % 18446744073709551616 := rfl; obtain ⟨g0, g1, g2⟩ := Sp.lw_dig zla zua
  refine ac_in Tryd.func65 (fun w0 W pin => ?_)
  refine aw_p 3 (
    .a 2 1 <| .nil _ _) ?_
  refine aw_p 7 (
    .a 2 3 <| .p (does_c (llof_ok (Sp.wh a) (by omega) (by omega))) <| .a 2 3 <| .nil _ _) ?_
  refine aw_p 15 (
    .a 2 4 <| .p (does_i ((Sp.wl a) % 4294967296) (Sp.umod wla.1) .u64) <| .a 2 4 <| .p (does_i ((Sp.wl a) / 4294967296) (Sp.ufd (by decide)) .u64) <| .a 3 4 <| .nil _ _) ?_
  refine aw_d 31 (
    .p (does_val (v' := .slice (some ⟨3, 2, none⟩) 5 0) (does_sarr (t := 27) (k := 3) (off := 0) (l := 2) (h := 7) (b := ⟨(lds (Sp.wh a)), 27, true, 1⟩) 7 1 5 (by kernel_rfl) (by kernel_rfl) (by kernel_rfl) (by kernel_rfl) (by decide) (by decide) (by decide) (by decide) (by decide)) (by kernel_rfl)) <|
    .p (does_val (v' := .slice (some ⟨3, 0, none⟩) 5 0) (does_sarr (t := 27) (k := 3) (off := 0) (l := 0) (h := 5) (b := ⟨(lds (Sp.wh a)), 27, true, 1⟩) 7 1 5 (by kernel_rfl) (by kernel_rfl) (by kernel_rfl) (by kernel_rfl) (by decide) (by decide) (by decide) (by decide) (by decide)) (by kernel_rfl)) <|
    .p (does_copy (k := 3) (off := 2) (n := 5) (k2 := 3) (off2 := 0) (n2 := 5) (z := 1) (b := ⟨(lds (Sp.wh a)), 27, true, 1⟩) (b2 := ⟨(lds (Sp.wh a)), 27, true, 1⟩) (by kernel_rfl) (by kernel_rfl) (by kernel_rfl) (by kernel_rfl)) <| .nil _ _) ?_
  refine aw_d 63 (
    .a 8 5 <| .nil _ _) ?_
  refine aw_p 127 (
    .a 2 5 <| .nil _ _) ?_
  refine aw_rt ?_
  exact en_ret [.agg #[.int .u64 ((Sp.wl a) % 4294967296), .int .u64 ((Sp.wl a) / 4294967296), .int .u64 (Sp.dgt (Sp.wh a) 0), .int .u64 (Sp.dgt (Sp.wh a) 1), .int .u64 (Sp.dgt (Sp.wh a) 2), .int .u64 (Sp.dgt (Sp.wh a) 3), .int .u64 (Sp.dgt (Sp.wh a) 4)]] (show (.agg #[.int .u64 ((Sp.wl a) % 4294967296), .int .u64 ((Sp.wl a) / 4294967296), .int .u64 (Sp.dgt (Sp.wh a) 0), .int .u64 (Sp.dgt (Sp.wh a) 1), .int .u64 (Sp.dgt (Sp.wh a) 2), .int .u64 (Sp.dgt (Sp.wh a) 3), .int .u64 (Sp.dgt (Sp.wh a) 4)] : Value) = (lval a) from (congrArg (fun z : List Value => Value.agg z.toArray) (lcons (congrArg (Value.int .u64) (show ((Sp.wl a) % 4294967296) = (Sp.dgt a 0) from by exact g0)) (lcons (congrArg (Value.int .u64) (show ((Sp.wl a) / 4294967296) = (Sp.dgt a 1) from by exact g1)) (lcons (congrArg (Value.int .u64) (show (Sp.dgt (Sp.wh a) 0) = (Sp.dgt a 2) from by exact g2 _)) (lcons (congrArg (Value.int .u64) (show (Sp.dgt (Sp.wh a) 1) = (Sp.dgt a 3) from by exact g2 _)) (lcons (congrArg (Value.int .u64) (show (Sp.dgt (Sp.wh a) 2) = (Sp.dgt a 4) from by exact g2 _)) (lcons (congrArg (Value.int .u64) (show (Sp.dgt (Sp.wh a) 3) = (Sp.dgt a 5) from by exact g2 _)) (lcons (congrArg (Value.int .u64) (show (Sp.dgt (Sp.wh a) 4) = (Sp.dgt a 6) from by exact g2 _)) rfl)))))))))

theorem lwd_ok (n : Int) :
    AC Tryd.prog 66 0 ([lval n]) [] (.agg #[.int .i64 (Sp.wh n), .int .u64 (Sp.wl n)]) [] := by
  refine ac_in Tryd.func66 (fun w0 W pin => ?_)
  refine aw_p 3 (
    .a 2 1 <| .nil _ _) ?_
  refine aw_p 7 (
    .a 2 3 <| .p (does_i ((Sp.dgt n 3) * 4294967296) (wrap_u64 (by have := Sp.dgt_bd n 3; omega) (by have := Sp.dgt_bd n 3; omega)) .u64) <| .a 2 3 <| .p (does_i (n / 18446744073709551616 % 18446744073709551616) ((Sp.or_dig n 2).trans (Sp.two_dig' n)) .u64) <| .p (does_i (Sp.wh n) (Sp.whi_of n) .i64) <|
    .a 2 3 <| .p (does_i ((Sp.dgt n 1) * 4294967296) (wrap_u64 (by have := Sp.dgt_bd n 1; omega) (by have := Sp.dgt_bd n 1; omega)) .u64) <| .a 2 3 <| .p (does_i (Sp.wl n) ((Sp.or_dig n 0).trans (Sp.two_dig n)) .u64) <| .a 2 3 <| .nil _ _) ?_
  refine aw_rt ?_
  exact en_ret [.agg #[.int .i64 (Sp.wh n), .int .u64 (Sp.wl n)]] (by kernel_rfl)

theorem lfits_ok (n : Int) (z0 : -13479973333575319897333507543509815336818572211270286240551805124608 ≤ n) (z1 : n < 13479973333575319897333507543509815336818572211270286240551805124608) :
    AC Tryd.prog 49 0 ([lval n]) [] (.bool (Sp.in128 n)) [] := by
  have hw := lwd_ok n; rw [← Sp.sw_wh n, ← Sp.sw_wl n] at hw; have sb := Sp.sw_bd n
  refine ac_in Tryd.func49 (fun w0 W pin => ?_)
  refine aw_p 3 (
    .a 2 1 <| .nil _ _) ?_
  refine aw_d 7 (
    .a 1 2 <| .p (does_c (hw)) <| .p (does_c (lwide_ok (Sp.sw n) (by omega) (by omega))) <| .a 1 2 <| .p (does_e (Sp.in128 n) (Sp.fits_eq z0 z1)) <| .a 1 2 <| .nil _ _) ?_
  refine aw_rt ?_
  exact en_ret [.bool (Sp.in128 n)] (by kernel_rfl)


end Go.Proofs.YtngmegnaohmapaaDoor.Am
