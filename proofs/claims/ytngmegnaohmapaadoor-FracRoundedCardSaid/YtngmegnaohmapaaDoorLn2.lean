/-
  The walks of numbers of 224 bits, second part.
-/
import Derived.Test.YtngmegnaohmapaaDoorProg
import Derived.Test.YtngmegnaohmapaaDoorAm16
import Derived.Test.YtngmegnaohmapaaDoorLn1
import Derived.Test.YtngmegnaohmapaaDoorNc7
namespace Go.Proofs.YtngmegnaohmapaaDoor.Am
open Go Go.Proofs
set_option maxRecDepth 100000
set_option maxHeartbeats 4000000
set_option linter.unusedVariables false
set_option linter.unusedSimpArgs false

theorem lshort_ok (n : Int) (z0 : -13479973333575319897333507543509815336818572211270286240551805124608 ≤ n) (z1 : n < 13479973333575319897333507543509815336818572211270286240551805124608) :
    AC Tryd.prog 29 0 ([lval n]) [] (.tuple #[.int .i64 (Sp.s64 n), .bool (Sp.in64 n)]) [] := by
  refine ac_in Tryd.func29 (fun w0 W pin => ?_)
  refine aw_p 3 (
    .a 3 1 <| .nil _ _) ?_
  refine aw_p 7 (
    .a 2 2 <| .p (does_i ((Sp.dgt n 1) * 4294967296) (wrap_u64 (by have := Sp.dgt_bd n 1; omega) (by have := Sp.dgt_bd n 1; omega)) .u64) <| .a 2 2 <| .p (does_i (n % 18446744073709551616) ((Sp.or_dig n 0).trans (Sp.two_dig n)) .u64) <| .p (does_i (Sp.s64 n) (Sp.s64_of n) .i64) <| .a 1 2 <| .nil _ _) ?_
  refine aw_d 15 (
    .a 2 2 <| .p (does_c (llof_ok (Sp.s64 n) (Sp.s64_bd n).1 (Sp.s64_bd n).2)) <| .a 1 2 <| .p (does_e (Sp.in64 n) (Sp.short_eq z0 z1)) <| .a 2 2 <| .nil _ _) ?_
  refine aw_rt ?_
  exact en_ret [.int .i64 (Sp.s64 n), .bool (Sp.in64 n)] (by kernel_rfl)

theorem ltimes_ok (m n : Int) :
    AC Tryd.prog 47 0 ([lval m, lval n]) [] (lval (m * n)) [] := by
  refine ac_in Tryd.func47 (fun w0 W pin => ?_)
  refine aw_p 3 (
    .a 3 1 <| .nil _ _) ?_
  refine aw_p 7 (
    .a 1 4 <| .nil _ _) ?_
  refine aw_sq 14 15 ?_
  refine aw_p 29 (
    .a 1 5 <| .nil _ _) ?_
  refine aw_bl 0 59 ?_
  refine aw_lp 119 ?_
  refine al_w [(2, .pointer (some ⟨1, 0, none⟩)), (3, .pointer (some ⟨2, 0, none⟩)), (4, .pointer (some ⟨3, 0, none⟩)), (5, .pointer (some ⟨4, 0, none⟩)), (11, .int .i64 ((0 : Nat) : Int))] [(1, ⟨(lds m), 27, true, 1⟩), (2, ⟨(lds n), 27, true, 1⟩), (3, ⟨[.int .u64 0, .int .u64 0, .int .u64 0, .int .u64 0, .int .u64 0, .int .u64 0, .int .u64 0], 27, true, 1⟩), (4, ⟨(lds 0), 27, true, 1⟩)] ?_
  refine al_ind (fun i : Nat × Int => (fun (u : Nat) (o : Int) => mkSt 0 [(2, .pointer (some ⟨1, 0, none⟩)), (3, .pointer (some ⟨2, 0, none⟩)), (4, .pointer (some ⟨3, 0, none⟩)), (5, .pointer (some ⟨4, 0, none⟩)), (11, .int .i64 ((u : Nat) : Int))] [(1, ⟨(lds m), 27, true, 1⟩), (2, ⟨(lds n), 27, true, 1⟩), (3, ⟨[.int .u64 0, .int .u64 0, .int .u64 0, .int .u64 0, .int .u64 0, .int .u64 0, .int .u64 0], 27, true, 1⟩), (4, ⟨(lds o), 27, true, 1⟩)]) i.1 i.2) (fun i : Nat × Int => (fun (u : Nat) (o : Int) => (u ≤ 7) ∧ (∃ q, o = (m % 4294967296 ^ u) * n + 26959946667150639794667015087019630673637144422540572481103610249216 * q)) i.1 i.2) (fun i : Nat × Int => (fun (u : Nat) (o : Int) => 7 - u) i.1 i.2) (fun i hi1 ih1 => ?_) (0, 0) (show (0 ≤ 7) ∧ (∃ q, 0 = (m % 4294967296 ^ 0) * n + 26959946667150639794667015087019630673637144422540572481103610249216 * q) from ⟨by omega, by exact ⟨0, by simp [Int.emod_one]⟩⟩)
  obtain ⟨u, o⟩ := i
  have hi1' : (u ≤ 7) ∧ (∃ q, o = (m % 4294967296 ^ u) * n + 26959946667150639794667015087019630673637144422540572481103610249216 * q) := hi1
  obtain ⟨hu, ho⟩ := hi1'
  show AL _ _ _ (mkSt 0 [(2, .pointer (some ⟨1, 0, none⟩)), (3, .pointer (some ⟨2, 0, none⟩)), (4, .pointer (some ⟨3, 0, none⟩)), (5, .pointer (some ⟨4, 0, none⟩)), (11, .int .i64 ((u : Nat) : Int))] [(1, ⟨(lds m), 27, true, 1⟩), (2, ⟨(lds n), 27, true, 1⟩), (3, ⟨[.int .u64 0, .int .u64 0, .int .u64 0, .int .u64 0, .int .u64 0, .int .u64 0, .int .u64 0], 27, true, 1⟩), (4, ⟨(lds o), 27, true, 1⟩)]) _
  refine al_round ?_
  refine aw_p 239 (
    .a 1 5 <| .nil _ _) ?_
  refine aw_sq 478 479 ?_
  refine aw_cd 956 957 (decide (((u : Nat) : Int) < 7)) (fun h1 => ?_) (fun h1 => ?_)
  · have h1p : ((((u : Nat) : Int) < 7)) := by first | (simpa using h1) | (have h1q := h1; simp at h1q; omega) | (have h1q := bx1 h1; simp at h1q; omega)
    refine aw_sk ?_
    refine then_normal ?_
    refine aw_sq 958 959 ?_
    refine aw_bl 1 1917 ?_
    refine aw_p 3835 (
      .a 2 5 <| .nil _ _) ?_
    refine aw_p 7671 (
      .a 1 5 <| .nil _ _) ?_
    refine aw_sq 15342 15343 ?_
    refine aw_p 30685 (
      .a 1 6 <| .nil _ _) ?_
    refine aw_bl 2 61371 ?_
    refine aw_lp 122743 ?_
    refine al_w [(2, .pointer (some ⟨1, 0, none⟩)), (3, .pointer (some ⟨2, 0, none⟩)), (4, .pointer (some ⟨3, 0, none⟩)), (5, .pointer (some ⟨4, 0, none⟩)), (6, .int .i64 ((u : Nat) : Int)), (7, .pointer (some ⟨5, 0, none⟩)), (8, .int .i64 ((0 : Nat) : Int)), (11, .int .i64 ((u : Nat) : Int)), (12, .bool (decide (((u : Nat) : Int) < 7)))] [(1, ⟨(lds m), 27, true, 1⟩), (2, ⟨(lds n), 27, true, 1⟩), (3, ⟨[.int .u64 0, .int .u64 0, .int .u64 0, .int .u64 0, .int .u64 0, .int .u64 0, .int .u64 0], 27, true, 1⟩), (4, ⟨(lds o), 27, true, 1⟩), (5, ⟨(lds 0), 27, true, 1⟩)] ?_
    refine al_ind (fun i : Nat × Int => (fun (k : Nat) (r : Int) => mkSt 0 [(2, .pointer (some ⟨1, 0, none⟩)), (3, .pointer (some ⟨2, 0, none⟩)), (4, .pointer (some ⟨3, 0, none⟩)), (5, .pointer (some ⟨4, 0, none⟩)), (6, .int .i64 ((u : Nat) : Int)), (7, .pointer (some ⟨5, 0, none⟩)), (8, .int .i64 ((k : Nat) : Int)), (11, .int .i64 ((u : Nat) : Int)), (12, .bool (decide (((u : Nat) : Int) < 7)))] [(1, ⟨(lds m), 27, true, 1⟩), (2, ⟨(lds n), 27, true, 1⟩), (3, ⟨[.int .u64 0, .int .u64 0, .int .u64 0, .int .u64 0, .int .u64 0, .int .u64 0, .int .u64 0], 27, true, 1⟩), (4, ⟨(lds o), 27, true, 1⟩), (5, ⟨(lds r), 27, true, 1⟩)]) i.1 i.2) (fun i : Nat × Int => (fun (k : Nat) (r : Int) => (u + k ≤ 7) ∧ (∃ q, r = Sp.dgt m u * (n % 4294967296 ^ k) * 4294967296 ^ u + 26959946667150639794667015087019630673637144422540572481103610249216 * q)) i.1 i.2) (fun i : Nat × Int => (fun (k : Nat) (r : Int) => 7 - k) i.1 i.2) (fun i hi2 ih2 => ?_) (0, 0) (show (u + 0 ≤ 7) ∧ (∃ q, 0 = Sp.dgt m u * (n % 4294967296 ^ 0) * 4294967296 ^ u + 26959946667150639794667015087019630673637144422540572481103610249216 * q) from ⟨by omega, by exact Sp.row_first m n u⟩)
    obtain ⟨k, r⟩ := i
    have hi2' : (u + k ≤ 7) ∧ (∃ q, r = Sp.dgt m u * (n % 4294967296 ^ k) * 4294967296 ^ u + 26959946667150639794667015087019630673637144422540572481103610249216 * q) := hi2
    obtain ⟨hk, hr⟩ := hi2'
    show AL _ _ _ (mkSt 0 [(2, .pointer (some ⟨1, 0, none⟩)), (3, .pointer (some ⟨2, 0, none⟩)), (4, .pointer (some ⟨3, 0, none⟩)), (5, .pointer (some ⟨4, 0, none⟩)), (6, .int .i64 ((u : Nat) : Int)), (7, .pointer (some ⟨5, 0, none⟩)), (8, .int .i64 ((k : Nat) : Int)), (11, .int .i64 ((u : Nat) : Int)), (12, .bool (decide (((u : Nat) : Int) < 7)))] [(1, ⟨(lds m), 27, true, 1⟩), (2, ⟨(lds n), 27, true, 1⟩), (3, ⟨[.int .u64 0, .int .u64 0, .int .u64 0, .int .u64 0, .int .u64 0, .int .u64 0, .int .u64 0], 27, true, 1⟩), (4, ⟨(lds o), 27, true, 1⟩), (5, ⟨(lds r), 27, true, 1⟩)]) _
    refine al_round ?_
    refine aw_sq 245486 245487 ?_
    refine aw_p 490973 (
      .a 2 6 <| .p (does_i (((u : Nat) : Int) + ((k : Nat) : Int)) (wrap_i64 (by omega) (by omega)) .i64) <| .a 1 6 <| .nil _ _) ?_
    refine aw_cd 981946 981947 (decide ((((u : Nat) : Int) + ((k : Nat) : Int)) < 7)) (fun h2 => ?_) (fun h2 => ?_)
    · have h2p : (((((u : Nat) : Int) + ((k : Nat) : Int)) < 7)) := by first | (simpa using h2) | (have h2q := h2; simp at h2q; omega) | (have h2q := bx1 h2; simp at h2q; omega)
      refine aw_sk ?_
      refine then_normal ?_
      refine aw_sq 490974 490975 ?_
      refine aw_bl 3 981949 ?_
      refine aw_d 1963899 (
        .a 1 6 <| .p (does_indexArr (t := 27) (x := .tmp 2) (y := .tmp 20) (k := 1) (off := 0) (n := 7) (z := 1) (kd := .i64) (j := ((u : Nat) : Int)) (by kernel_rfl) (by kernel_rfl) (by kernel_rfl) (by kernel_rfl) (by kernel_rfl) (by omega) (by omega)) <|
        .p (does_load (t := 25) (x := .tmp 21) (k := 1) (off := (0 + (((u : Nat) : Int)).toNat * 1)) (b := ⟨(lds m), 27, true, 1⟩) (v := .int .u64 (Sp.dgt m u)) (by kernel_rfl) (by kernel_rfl) (by kernel_rfl) (ldV_lds (n := m) (j := u) (by kernel_rfl) (by kernel_rfl) (by omega) (by omega))) <| .a 1 6 <|
        .p (does_indexArr (t := 27) (x := .tmp 3) (y := .tmp 23) (k := 2) (off := 0) (n := 7) (z := 1) (kd := .i64) (j := ((k : Nat) : Int)) (by kernel_rfl) (by kernel_rfl) (by kernel_rfl) (by kernel_rfl) (by kernel_rfl) (by omega) (by omega)) <|
        .p (does_load (t := 25) (x := .tmp 24) (k := 2) (off := (0 + (((k : Nat) : Int)).toNat * 1)) (b := ⟨(lds n), 27, true, 1⟩) (v := .int .u64 (Sp.dgt n k)) (by kernel_rfl) (by kernel_rfl) (by kernel_rfl) (ldV_lds (n := n) (j := k) (by kernel_rfl) (by kernel_rfl) (by omega) (by omega))) <|
        .p (does_i ((Sp.dgt m u) * (Sp.dgt n k)) (wrap_u64 (Sp.mul_dg m n u k).1 (Sp.mul_dg m n u k).2) .u64) <| .a 1 6 <| .nil _ _) ?_
      refine aw_p 3927799 (
        .a 3 6 <| .nil _ _) ?_
      refine aw_w [(2, .pointer (some ⟨1, 0, none⟩)), (3, .pointer (some ⟨2, 0, none⟩)), (4, .pointer (some ⟨3, 0, none⟩)), (5, .pointer (some ⟨4, 0, none⟩)), (6, .int .i64 ((u : Nat) : Int)), (7, .pointer (some ⟨5, 0, none⟩)), (8, .int .i64 ((k : Nat) : Int)), (9, .int .u64 ((Sp.dgt m u) * (Sp.dgt n k))), (10, .pointer (some ⟨6, 0, none⟩)), (11, .int .i64 ((u : Nat) : Int)), (12, .bool (decide (((u : Nat) : Int) < 7))), (17, .bool (decide ((((u : Nat) : Int) + ((k : Nat) : Int)) < 7)))] [(1, ⟨(lds m), 27, true, 1⟩), (2, ⟨(lds n), 27, true, 1⟩), (3, ⟨[.int .u64 0, .int .u64 0, .int .u64 0, .int .u64 0, .int .u64 0, .int .u64 0, .int .u64 0], 27, true, 1⟩), (4, ⟨(lds o), 27, true, 1⟩), (5, ⟨(lds r), 27, true, 1⟩), (6, ⟨[.int .u64 0, .int .u64 0, .int .u64 0, .int .u64 0, .int .u64 0, .int .u64 0, .int .u64 0], 27, true, 1⟩)] ?_
      refine aw_p 7855599 (
        .a 2 7 <| .p (does_i (((u : Nat) : Int) + ((k : Nat) : Int)) (wrap_i64 (by omega) (by omega)) .i64) <| .a 1 7 <| .p (does_i (((Sp.dgt m u) * (Sp.dgt n k)) % 4294967296) (Sp.umod (Sp.mul_dg m n u k).1) .u64) <|
        .p (does_indexArr (t := 27) (x := .tmp 10) (y := .tmp 30) (k := 6) (off := 0) (n := 7) (z := 1) (kd := .i64) (j := (((u : Nat) : Int) + ((k : Nat) : Int))) (by kernel_rfl) (by kernel_rfl) (by kernel_rfl) (by kernel_rfl) (by kernel_rfl) (by omega) (by omega)) <|
        .p (does_store (t := 25) (x := .tmp 33) (y := .tmp 32) (k := 6) (off := (0 + ((((u : Nat) : Int) + ((k : Nat) : Int))).toNat * 1)) (b := ⟨[.int .u64 0, .int .u64 0, .int .u64 0, .int .u64 0, .int .u64 0, .int .u64 0, .int .u64 0], 27, true, 1⟩) (v := .int .u64 (((Sp.dgt m u) * (Sp.dgt n k)) % 4294967296)) (cells := (lds ((Sp.dgt m u * Sp.dgt n k % 4294967296) * 4294967296 ^ (u + k)))) (by kernel_rfl) (by kernel_rfl) (by kernel_rfl) (by kernel_rfl) rfl (by kernel_rfl) (by kernel_rfl) (Nat.ble_eq_true_of_le (by show _ + 1 ≤ 7; omega)) (setL_zero (j := u + k) (by omega) (by omega) (by omega) (by omega))) <| .nil _ _) ?_
      refine aw_sq 15711198 15711199 ?_
      refine aw_p 31422397 (
        .a 2 7 <| .p (does_i (((u : Nat) : Int) + ((k : Nat) : Int)) (wrap_i64 (by omega) (by omega)) .i64) <| .p (does_i ((((u : Nat) : Int) + ((k : Nat) : Int)) + 1) (wrap_i64 (by omega) (by omega)) .i64) <| .a 1 7 <| .nil _ _) ?_
      refine aw_cd 62844794 62844795 (decide (((((u : Nat) : Int) + ((k : Nat) : Int)) + 1) < 7)) (fun h3 => ?_) (fun h3 => ?_)
      · have h3p : ((((((u : Nat) : Int) + ((k : Nat) : Int)) + 1) < 7)) := by first | (simpa using h3) | (have h3q := h3; simp at h3q; omega) | (have h3q := bx1 h3; simp at h3q; omega)
        refine aw_p1 (
          .a 2 7 <| .p (does_i (((u : Nat) : Int) + ((k : Nat) : Int)) (wrap_i64 (by omega) (by omega)) .i64) <| .p (does_i ((((u : Nat) : Int) + ((k : Nat) : Int)) + 1) (wrap_i64 (by omega) (by omega)) .i64) <| .a 1 7 <| .p (does_i (((Sp.dgt m u) * (Sp.dgt n k)) / 4294967296) (Sp.ufd (by decide)) .u64) <|
          .p (does_indexArr (t := 27) (x := .tmp 10) (y := .tmp 42) (k := 6) (off := 0) (n := 7) (z := 1) (kd := .i64) (j := ((((u : Nat) : Int) + ((k : Nat) : Int)) + 1)) (by kernel_rfl) (by kernel_rfl) (by kernel_rfl) (by kernel_rfl) (by kernel_rfl) (by omega) (by omega)) <|
          .p (does_store (t := 25) (x := .tmp 45) (y := .tmp 44) (k := 6) (off := (0 + (((((u : Nat) : Int) + ((k : Nat) : Int)) + 1)).toNat * 1)) (b := ⟨(lds ((Sp.dgt m u * Sp.dgt n k % 4294967296) * 4294967296 ^ (u + k))), 27, true, 1⟩) (v := .int .u64 (((Sp.dgt m u) * (Sp.dgt n k)) / 4294967296)) (cells := (lds ((Sp.dgt m u * Sp.dgt n k) * 4294967296 ^ (u + k)))) (by kernel_rfl) (by kernel_rfl) (by kernel_rfl) (by kernel_rfl) rfl (by kernel_rfl) (by kernel_rfl) (Nat.ble_eq_true_of_le (by show _ + 1 ≤ 7; omega)) (setL_next (j := u + k) (by omega) (by omega) (Sp.mul_dg m n u k).1 (Sp.mul_dg m n u k).2)) <| .nil _ _) ?_
        refine then_normal ?_
        refine aw_p1 (
          .a 2 7 <| .p (does_c (lplus_ok r ((Sp.dgt m u * Sp.dgt n k) * 4294967296 ^ (u + k)))) <| .a 1 7 <| .nil _ _) ?_
        refine block_normal ?_
        refine then_normal ?_
        refine aw_p1 (
          .a 1 7 <| .p (does_i (((k : Nat) : Int) + 1) (wrap_i64 (by omega) (by omega)) .i64) <| .a 1 7 <| .nil _ _) ?_
        refine then_normal ?_
        refine al_w [(2, .pointer (some ⟨1, 0, none⟩)), (3, .pointer (some ⟨2, 0, none⟩)), (4, .pointer (some ⟨3, 0, none⟩)), (5, .pointer (some ⟨4, 0, none⟩)), (6, .int .i64 ((u : Nat) : Int)), (7, .pointer (some ⟨5, 0, none⟩)), (8, .int .i64 (((k + 1) : Nat) : Int)), (11, .int .i64 ((u : Nat) : Int)), (12, .bool (decide (((u : Nat) : Int) < 7)))] [(1, ⟨(lds m), 27, true, 1⟩), (2, ⟨(lds n), 27, true, 1⟩), (3, ⟨[.int .u64 0, .int .u64 0, .int .u64 0, .int .u64 0, .int .u64 0, .int .u64 0, .int .u64 0], 27, true, 1⟩), (4, ⟨(lds o), 27, true, 1⟩), (5, ⟨(lds (r + ((Sp.dgt m u * Sp.dgt n k) * 4294967296 ^ (u + k)))), 27, true, 1⟩)] ?_
        exact ih2 ((k + 1), (r + ((Sp.dgt m u * Sp.dgt n k) * 4294967296 ^ (u + k)))) (show (u + (k + 1) ≤ 7) ∧ (∃ q, (r + ((Sp.dgt m u * Sp.dgt n k) * 4294967296 ^ (u + k))) = Sp.dgt m u * (n % 4294967296 ^ (k + 1)) * 4294967296 ^ u + 26959946667150639794667015087019630673637144422540572481103610249216 * q) from ⟨by omega, by (first | exact Sp.row_next hr | exact Sp.row_last (by omega) hr)⟩) (show 7 - (k + 1) < 7 - k from by omega)
      · have h3p : ¬ ((((((u : Nat) : Int) + ((k : Nat) : Int)) + 1) < 7)) := by first | (simpa using h3) | (have h3q := h3; simp at h3q; omega) | (have h3q := bx2 h3; simp at h3q; omega)
        refine aw_sk ?_
        refine then_normal ?_
        refine aw_p1 (
          .a 2 7 <| .p (does_c (lplus_ok r ((Sp.dgt m u * Sp.dgt n k % 4294967296) * 4294967296 ^ (u + k)))) <| .a 1 7 <| .nil _ _) ?_
        refine block_normal ?_
        refine then_normal ?_
        refine aw_p1 (
          .a 1 7 <| .p (does_i (((k : Nat) : Int) + 1) (wrap_i64 (by omega) (by omega)) .i64) <| .a 1 7 <| .nil _ _) ?_
        refine then_normal ?_
        refine al_w [(2, .pointer (some ⟨1, 0, none⟩)), (3, .pointer (some ⟨2, 0, none⟩)), (4, .pointer (some ⟨3, 0, none⟩)), (5, .pointer (some ⟨4, 0, none⟩)), (6, .int .i64 ((u : Nat) : Int)), (7, .pointer (some ⟨5, 0, none⟩)), (8, .int .i64 (((k + 1) : Nat) : Int)), (11, .int .i64 ((u : Nat) : Int)), (12, .bool (decide (((u : Nat) : Int) < 7)))] [(1, ⟨(lds m), 27, true, 1⟩), (2, ⟨(lds n), 27, true, 1⟩), (3, ⟨[.int .u64 0, .int .u64 0, .int .u64 0, .int .u64 0, .int .u64 0, .int .u64 0, .int .u64 0], 27, true, 1⟩), (4, ⟨(lds o), 27, true, 1⟩), (5, ⟨(lds (r + ((Sp.dgt m u * Sp.dgt n k % 4294967296) * 4294967296 ^ (u + k)))), 27, true, 1⟩)] ?_
        exact ih2 ((k + 1), (r + ((Sp.dgt m u * Sp.dgt n k % 4294967296) * 4294967296 ^ (u + k)))) (show (u + (k + 1) ≤ 7) ∧ (∃ q, (r + ((Sp.dgt m u * Sp.dgt n k % 4294967296) * 4294967296 ^ (u + k))) = Sp.dgt m u * (n % 4294967296 ^ (k + 1)) * 4294967296 ^ u + 26959946667150639794667015087019630673637144422540572481103610249216 * q) from ⟨by omega, by (first | exact Sp.row_next hr | exact Sp.row_last (by omega) hr)⟩) (show 7 - (k + 1) < 7 - k from by omega)
    · have h2p : ¬ (((((u : Nat) : Int) + ((k : Nat) : Int)) < 7)) := by first | (simpa using h2) | (have h2q := h2; simp at h2q; omega) | (have h2q := bx2 h2; simp at h2q; omega)
      refine aw_ex 2 ?_
      refine then_exit ?_
      refine then_exit ?_
      refine block_exit ?_
      refine then_normal ?_
      refine aw_p1 (
        .a 2 6 <| .p (does_c (lplus_ok o r)) <| .a 1 6 <| .nil _ _) ?_
      refine block_normal ?_
      refine then_normal ?_
      refine aw_p1 (
        .p (does_i (((u : Nat) : Int) + 1) (wrap_i64 (by omega) (by omega)) .i64) <| .a 1 6 <| .nil _ _) ?_
      refine then_normal ?_
      refine al_w [(2, .pointer (some ⟨1, 0, none⟩)), (3, .pointer (some ⟨2, 0, none⟩)), (4, .pointer (some ⟨3, 0, none⟩)), (5, .pointer (some ⟨4, 0, none⟩)), (11, .int .i64 (((u + 1) : Nat) : Int))] [(1, ⟨(lds m), 27, true, 1⟩), (2, ⟨(lds n), 27, true, 1⟩), (3, ⟨[.int .u64 0, .int .u64 0, .int .u64 0, .int .u64 0, .int .u64 0, .int .u64 0, .int .u64 0], 27, true, 1⟩), (4, ⟨(lds (o + r)), 27, true, 1⟩)] ?_
      exact ih1 ((u + 1), (o + r)) (show ((u + 1) ≤ 7) ∧ (∃ q, (o + r) = (m % 4294967296 ^ (u + 1)) * n + 26959946667150639794667015087019630673637144422540572481103610249216 * q) from ⟨by omega, by exact Sp.out_next (k := k) (by omega) ho hr⟩) (show 7 - (u + 1) < 7 - u from by omega)
  · have h1p : ¬ ((((u : Nat) : Int) < 7)) := by first | (simpa using h1) | (have h1q := h1; simp at h1q; omega) | (have h1q := bx2 h1; simp at h1q; omega)
    refine aw_ex 0 ?_
    refine then_exit ?_
    refine then_exit ?_
    refine block_exit ?_
    refine then_normal ?_
    refine aw_p 31 (
      .a 2 5 <| .nil _ _) ?_
    refine aw_rt ?_
    exact en_ret [lval o] (show (lval o : Value) = (lval (m * n)) from (congrArg (fun z : List Value => Value.agg z.toArray) (lcons (congrArg (Value.int .u64) (show (Sp.dgt o 0) = (Sp.dgt (m * n) 0) from by (exact Sp.dgt_congr (Sp.out_last (by have e : u = 7 := (by omega); subst e; exact ho)) (by decide)))) (lcons (congrArg (Value.int .u64) (show (Sp.dgt o 1) = (Sp.dgt (m * n) 1) from by (exact Sp.dgt_congr (Sp.out_last (by have e : u = 7 := (by omega); subst e; exact ho)) (by decide)))) (lcons (congrArg (Value.int .u64) (show (Sp.dgt o 2) = (Sp.dgt (m * n) 2) from by (exact Sp.dgt_congr (Sp.out_last (by have e : u = 7 := (by omega); subst e; exact ho)) (by decide)))) (lcons (congrArg (Value.int .u64) (show (Sp.dgt o 3) = (Sp.dgt (m * n) 3) from by (exact Sp.dgt_congr (Sp.out_last (by have e : u = 7 := (by omega); subst e; exact ho)) (by decide)))) (lcons (congrArg (Value.int .u64) (show (Sp.dgt o 4) = (Sp.dgt (m * n) 4) from by (exact Sp.dgt_congr (Sp.out_last (by have e : u = 7 := (by omega); subst e; exact ho)) (by decide)))) (lcons (congrArg (Value.int .u64) (show (Sp.dgt o 5) = (Sp.dgt (m * n) 5) from by (exact Sp.dgt_congr (Sp.out_last (by have e : u = 7 := (by omega); subst e; exact ho)) (by decide)))) (lcons (congrArg (Value.int .u64) (show (Sp.dgt o 6) = (Sp.dgt (m * n) 6) from by (exact Sp.dgt_congr (Sp.out_last (by have e : u = 7 := (by omega); subst e; exact ho)) (by decide)))) rfl)))))))))

theorem lshare_ok (a b : Int) (za : 0 ≤ a) (zb : a < 26959946667150639794667015087019630673637144422540572481103610249216) (zc : 0 < b) (zd : b ≤ 6739986666787659948666753771754907668409286105635143120275902562304) :
    AC Tryd.prog 67 0 ([lval a, lval b]) [] (.tuple #[lval (a / b), lval (a % b)]) [] := by
  refine ac_in Tryd.func67 (fun w0 W pin => ?_)
  refine aw_p 3 (
    .a 4 1 <| .nil _ _) ?_
  refine aw_p 7 (
    .a 2 5 <| .nil _ _) ?_
  refine aw_sq 14 15 ?_
  refine aw_p 29 (
    .a 1 7 <| .nil _ _) ?_
  refine aw_bl 0 59 ?_
  refine aw_lp 119 ?_
  refine al_w [(2, .pointer (some ⟨1, 0, none⟩)), (3, .pointer (some ⟨2, 0, none⟩)), (4, .pointer (some ⟨3, 0, none⟩)), (5, .pointer (some ⟨4, 0, none⟩)), (6, .pointer (some ⟨5, 0, none⟩)), (7, .pointer (some ⟨6, 0, none⟩)), (8, .int .i64 (((224 : Nat) : Int) - 1))] [(1, ⟨(lds a), 27, true, 1⟩), (2, ⟨(lds b), 27, true, 1⟩), (3, ⟨[.int .u64 0, .int .u64 0, .int .u64 0, .int .u64 0, .int .u64 0, .int .u64 0, .int .u64 0], 27, true, 1⟩), (4, ⟨[.int .u64 0, .int .u64 0, .int .u64 0, .int .u64 0, .int .u64 0, .int .u64 0, .int .u64 0], 27, true, 1⟩), (5, ⟨(lds 0), 27, true, 1⟩), (6, ⟨(lds 0), 27, true, 1⟩)] ?_
  refine al_ind (fun i : Nat × Int × Int => (fun (t : Nat) (q : Int) (r : Int) => mkSt 0 [(2, .pointer (some ⟨1, 0, none⟩)), (3, .pointer (some ⟨2, 0, none⟩)), (4, .pointer (some ⟨3, 0, none⟩)), (5, .pointer (some ⟨4, 0, none⟩)), (6, .pointer (some ⟨5, 0, none⟩)), (7, .pointer (some ⟨6, 0, none⟩)), (8, .int .i64 (((t : Nat) : Int) - 1))] [(1, ⟨(lds a), 27, true, 1⟩), (2, ⟨(lds b), 27, true, 1⟩), (3, ⟨[.int .u64 0, .int .u64 0, .int .u64 0, .int .u64 0, .int .u64 0, .int .u64 0, .int .u64 0], 27, true, 1⟩), (4, ⟨[.int .u64 0, .int .u64 0, .int .u64 0, .int .u64 0, .int .u64 0, .int .u64 0, .int .u64 0], 27, true, 1⟩), (5, ⟨(lds q), 27, true, 1⟩), (6, ⟨(lds r), 27, true, 1⟩)]) i.1 i.2.1 i.2.2) (fun i : Nat × Int × Int => (fun (t : Nat) (q : Int) (r : Int) => (t ≤ 224) ∧ (q * b + r = a / 2 ^ t) ∧ (0 ≤ r) ∧ (r < b)) i.1 i.2.1 i.2.2) (fun i : Nat × Int × Int => (fun (t : Nat) (q : Int) (r : Int) => t) i.1 i.2.1 i.2.2) (fun i hi1 ih1 => ?_) (224, 0, 0) (show (224 ≤ 224) ∧ (0 * b + 0 = a / 2 ^ 224) ∧ (0 ≤ 0) ∧ (0 < b) from ⟨by omega, by (rw [Sp.top_zero za zb, Int.zero_mul]; rfl), by omega, by omega⟩)
  obtain ⟨t, q, r⟩ := i
  have hi1' : (t ≤ 224) ∧ (q * b + r = a / 2 ^ t) ∧ (0 ≤ r) ∧ (r < b) := hi1
  obtain ⟨ht, hq, hr0, hr1⟩ := hi1'
  show AL _ _ _ (mkSt 0 [(2, .pointer (some ⟨1, 0, none⟩)), (3, .pointer (some ⟨2, 0, none⟩)), (4, .pointer (some ⟨3, 0, none⟩)), (5, .pointer (some ⟨4, 0, none⟩)), (6, .pointer (some ⟨5, 0, none⟩)), (7, .pointer (some ⟨6, 0, none⟩)), (8, .int .i64 (((t : Nat) : Int) - 1))] [(1, ⟨(lds a), 27, true, 1⟩), (2, ⟨(lds b), 27, true, 1⟩), (3, ⟨[.int .u64 0, .int .u64 0, .int .u64 0, .int .u64 0, .int .u64 0, .int .u64 0, .int .u64 0], 27, true, 1⟩), (4, ⟨[.int .u64 0, .int .u64 0, .int .u64 0, .int .u64 0, .int .u64 0, .int .u64 0, .int .u64 0], 27, true, 1⟩), (5, ⟨(lds q), 27, true, 1⟩), (6, ⟨(lds r), 27, true, 1⟩)]) _
  refine al_round ?_
  refine aw_sq 238 239 ?_
  refine aw_p 477 (
    .a 2 7 <| .nil _ _) ?_
  refine aw_cd 954 955 (decide ((((t : Nat) : Int) - 1) ≥ 0)) (fun h1 => ?_) (fun h1 => ?_)
  · have h1p : (((((t : Nat) : Int) - 1) ≥ 0)) := by first | (simpa using h1) | (have h1q := h1; simp at h1q; omega) | (have h1q := bx1 h1; simp at h1q; omega)
    refine aw_sk ?_
    refine then_normal ?_
    refine aw_sq 478 479 ?_
    refine aw_bl 1 957 ?_
    refine aw_d 1915 (
      .a 1 7 <| .p (does_c (ltwice_ok q)) <| .a 1 7 <| .p (does_c (ltwice_ok r)) <| .a 2 7 <| .nil _ _) ?_
    refine aw_sq 3830 3831 ?_
    refine aw_p 7661 (
      .a 1 7 <| .p (does_i (((t - 1) / 32 : Nat) : Int) ((show (IntKind.wrap .i64 (Int.tdiv (((t : Nat) : Int) - 1) 32)) = (((t - 1) / 32 : Nat) : Int) from Sp.share_j (by omega) (by omega))) .i64) <|
      .p (does_indexArr (t := 27) (x := .tmp 2) (y := .tmp 18) (k := 1) (off := 0) (n := 7) (z := 1) (kd := .i64) (j := (((t - 1) / 32 : Nat) : Int)) (by kernel_rfl) (by kernel_rfl) (by kernel_rfl) (by kernel_rfl) (by kernel_rfl) (by omega) (by omega)) <|
      .p (does_load (t := 25) (x := .tmp 19) (k := 1) (off := (0 + ((((t - 1) / 32 : Nat) : Int)).toNat * 1)) (b := ⟨(lds a), 27, true, 1⟩) (v := .int .u64 (Sp.dgt a ((t - 1) / 32))) (by kernel_rfl) (by kernel_rfl) (by kernel_rfl) (ldV_lds (n := a) (j := ((t - 1) / 32)) (by kernel_rfl) (by kernel_rfl) (by omega) (by omega))) <|
      .a 1 7 <| .p (does_i (((t - 1) % 32 : Nat) : Int) ((show (Int.tmod (((t : Nat) : Int) - 1) 32) = (((t - 1) % 32 : Nat) : Int) from Sp.share_k (by omega))) .i64) <|
      .p (does_shr (t := 25) (t2 := 3) (x := .tmp 20) (y := .tmp 22) (k := .u64) (k2 := .i64) (a := (Sp.dgt a ((t - 1) / 32))) (b := (((t - 1) % 32 : Nat) : Int)) (by kernel_rfl) (by kernel_rfl) (by kernel_rfl) (by omega) (by show _ ≤ 64; omega)) <|
      .p (does_i ((Int.fdiv (Sp.dgt a ((t - 1) / 32)) (2 ^ (((t - 1) % 32 : Nat) : Int).toNat)) % 2) (Sp.umod (Sp.share_nn _ _ _)) .u64) <| .p (does_b (decide (a / 2 ^ (t - 1) % 2 = 1)) (Sp.share_bit a t)) <| .nil _ _) ?_
    refine aw_cd 15322 15323 (decide (a / 2 ^ (t - 1) % 2 = 1)) (fun h2 => ?_) (fun h2 => ?_)
    · have h2p : ((a / 2 ^ (t - 1) % 2 = 1)) := by first | (simpa using h2) | (have h2q := h2; simp at h2q; omega) | (have h2q := bx1 h2; simp at h2q; omega)
      refine aw_p1 (
        .a 2 7 <| .p (does_c (lplus_ok (2 * r) 1)) <| .a 1 7 <| .nil _ _) ?_
      refine then_normal ?_
      refine aw_p 7663 (
        .a 2 7 <| .p (does_c (lminus_ok ((2 * r) + 1) b)) <| .p (does_c (lsign_ok (((2 * r) + 1) - b) (by omega) (by omega))) <| .p (does_b (decide (0 ≤ (((2 * r) + 1) - b))) (Sp.sgn_ge _)) <| .nil _ _) ?_
      refine aw_w [(2, .pointer (some ⟨1, 0, none⟩)), (3, .pointer (some ⟨2, 0, none⟩)), (4, .pointer (some ⟨3, 0, none⟩)), (5, .pointer (some ⟨4, 0, none⟩)), (6, .pointer (some ⟨5, 0, none⟩)), (7, .pointer (some ⟨6, 0, none⟩)), (8, .int .i64 (((t : Nat) : Int) - 1)), (10, .bool (decide ((((t : Nat) : Int) - 1) ≥ 0))), (25, .bool (decide (a / 2 ^ (t - 1) % 2 = 1))), (33, .bool (decide (0 ≤ (((2 * r) + 1) - b))))] [(1, ⟨(lds a), 27, true, 1⟩), (2, ⟨(lds b), 27, true, 1⟩), (3, ⟨[.int .u64 0, .int .u64 0, .int .u64 0, .int .u64 0, .int .u64 0, .int .u64 0, .int .u64 0], 27, true, 1⟩), (4, ⟨[.int .u64 0, .int .u64 0, .int .u64 0, .int .u64 0, .int .u64 0, .int .u64 0, .int .u64 0], 27, true, 1⟩), (5, ⟨(lds (2 * q)), 27, true, 1⟩), (6, ⟨(lds ((2 * r) + 1)), 27, true, 1⟩)] ?_
      refine aw_cd 15326 15327 (decide (0 ≤ (((2 * r) + 1) - b))) (fun h3 => ?_) (fun h3 => ?_)
      · have h3p : ((0 ≤ (((2 * r) + 1) - b))) := by first | (simpa using h3) | (have h3q := h3; simp at h3q; omega) | (have h3q := bx1 h3; simp at h3q; omega)
        refine aw_d1 (
          .a 2 7 <| .p (does_c (lplus_ok (2 * q) 1)) <| .a 2 7 <| .p (does_c (lminus_ok ((2 * r) + 1) b)) <| .a 2 7 <| .nil _ _) ?_
        refine block_normal ?_
        refine then_normal ?_
        refine aw_p1 (
          .a 1 7 <| .p (does_i (((t - 1 : Nat) : Int) - 1) ((show (IntKind.wrap .i64 ((((t : Nat) : Int) - 1) - 1)) = (((t - 1 : Nat) : Int) - 1) from (by rw [wrap_i64 (by omega) (by omega)]; omega))) .i64) <| .a 1 7 <| .nil _ _) ?_
        refine then_normal ?_
        refine al_w [(2, .pointer (some ⟨1, 0, none⟩)), (3, .pointer (some ⟨2, 0, none⟩)), (4, .pointer (some ⟨3, 0, none⟩)), (5, .pointer (some ⟨4, 0, none⟩)), (6, .pointer (some ⟨5, 0, none⟩)), (7, .pointer (some ⟨6, 0, none⟩)), (8, .int .i64 ((((t - 1) : Nat) : Int) - 1))] [(1, ⟨(lds a), 27, true, 1⟩), (2, ⟨(lds b), 27, true, 1⟩), (3, ⟨[.int .u64 0, .int .u64 0, .int .u64 0, .int .u64 0, .int .u64 0, .int .u64 0, .int .u64 0], 27, true, 1⟩), (4, ⟨[.int .u64 0, .int .u64 0, .int .u64 0, .int .u64 0, .int .u64 0, .int .u64 0, .int .u64 0], 27, true, 1⟩), (5, ⟨(lds ((2 * q) + 1)), 27, true, 1⟩), (6, ⟨(lds (((2 * r) + 1) - b)), 27, true, 1⟩)] ?_
        exact ih1 ((t - 1), ((2 * q) + 1), (((2 * r) + 1) - b)) (show ((t - 1) ≤ 224) ∧ (((2 * q) + 1) * b + (((2 * r) + 1) - b) = a / 2 ^ (t - 1)) ∧ (0 ≤ (((2 * r) + 1) - b)) ∧ ((((2 * r) + 1) - b) < b) from ⟨by omega, by (have hs := Sp.half_step a (t := t) (by omega); rw [← hq] at hs; simp only [Int.add_mul, Int.mul_assoc, Int.one_mul] at hs ⊢; omega), by omega, by omega⟩) (show (t - 1) < t from by omega)
      · have h3p : ¬ ((0 ≤ (((2 * r) + 1) - b))) := by first | (simpa using h3) | (have h3q := h3; simp at h3q; omega) | (have h3q := bx2 h3; simp at h3q; omega)
        refine aw_sk ?_
        refine block_normal ?_
        refine then_normal ?_
        refine aw_p1 (
          .a 1 7 <| .p (does_i (((t - 1 : Nat) : Int) - 1) ((show (IntKind.wrap .i64 ((((t : Nat) : Int) - 1) - 1)) = (((t - 1 : Nat) : Int) - 1) from (by rw [wrap_i64 (by omega) (by omega)]; omega))) .i64) <| .a 1 7 <| .nil _ _) ?_
        refine then_normal ?_
        refine al_w [(2, .pointer (some ⟨1, 0, none⟩)), (3, .pointer (some ⟨2, 0, none⟩)), (4, .pointer (some ⟨3, 0, none⟩)), (5, .pointer (some ⟨4, 0, none⟩)), (6, .pointer (some ⟨5, 0, none⟩)), (7, .pointer (some ⟨6, 0, none⟩)), (8, .int .i64 ((((t - 1) : Nat) : Int) - 1))] [(1, ⟨(lds a), 27, true, 1⟩), (2, ⟨(lds b), 27, true, 1⟩), (3, ⟨[.int .u64 0, .int .u64 0, .int .u64 0, .int .u64 0, .int .u64 0, .int .u64 0, .int .u64 0], 27, true, 1⟩), (4, ⟨[.int .u64 0, .int .u64 0, .int .u64 0, .int .u64 0, .int .u64 0, .int .u64 0, .int .u64 0], 27, true, 1⟩), (5, ⟨(lds (2 * q)), 27, true, 1⟩), (6, ⟨(lds ((2 * r) + 1)), 27, true, 1⟩)] ?_
        exact ih1 ((t - 1), (2 * q), ((2 * r) + 1)) (show ((t - 1) ≤ 224) ∧ ((2 * q) * b + ((2 * r) + 1) = a / 2 ^ (t - 1)) ∧ (0 ≤ ((2 * r) + 1)) ∧ (((2 * r) + 1) < b) from ⟨by omega, by (have hs := Sp.half_step a (t := t) (by omega); rw [← hq] at hs; simp only [Int.add_mul, Int.mul_assoc, Int.one_mul] at hs ⊢; omega), by omega, by omega⟩) (show (t - 1) < t from by omega)
    · have h2p : ¬ ((a / 2 ^ (t - 1) % 2 = 1)) := by first | (simpa using h2) | (have h2q := h2; simp at h2q; omega) | (have h2q := bx2 h2; simp at h2q; omega)
      refine aw_sk ?_
      refine then_normal ?_
      refine aw_p 7663 (
        .a 2 7 <| .p (does_c (lminus_ok (2 * r) b)) <| .p (does_c (lsign_ok ((2 * r) - b) (by omega) (by omega))) <| .p (does_b (decide (0 ≤ ((2 * r) - b))) (Sp.sgn_ge _)) <| .nil _ _) ?_
      refine aw_w [(2, .pointer (some ⟨1, 0, none⟩)), (3, .pointer (some ⟨2, 0, none⟩)), (4, .pointer (some ⟨3, 0, none⟩)), (5, .pointer (some ⟨4, 0, none⟩)), (6, .pointer (some ⟨5, 0, none⟩)), (7, .pointer (some ⟨6, 0, none⟩)), (8, .int .i64 (((t : Nat) : Int) - 1)), (10, .bool (decide ((((t : Nat) : Int) - 1) ≥ 0))), (25, .bool (decide (a / 2 ^ (t - 1) % 2 = 1))), (33, .bool (decide (0 ≤ ((2 * r) - b))))] [(1, ⟨(lds a), 27, true, 1⟩), (2, ⟨(lds b), 27, true, 1⟩), (3, ⟨[.int .u64 0, .int .u64 0, .int .u64 0, .int .u64 0, .int .u64 0, .int .u64 0, .int .u64 0], 27, true, 1⟩), (4, ⟨[.int .u64 0, .int .u64 0, .int .u64 0, .int .u64 0, .int .u64 0, .int .u64 0, .int .u64 0], 27, true, 1⟩), (5, ⟨(lds (2 * q)), 27, true, 1⟩), (6, ⟨(lds (2 * r)), 27, true, 1⟩)] ?_
      refine aw_cd 15326 15327 (decide (0 ≤ ((2 * r) - b))) (fun h4 => ?_) (fun h4 => ?_)
      · have h4p : ((0 ≤ ((2 * r) - b))) := by first | (simpa using h4) | (have h4q := h4; simp at h4q; omega) | (have h4q := bx1 h4; simp at h4q; omega)
        refine aw_d1 (
          .a 2 7 <| .p (does_c (lplus_ok (2 * q) 1)) <| .a 2 7 <| .p (does_c (lminus_ok (2 * r) b)) <| .a 2 7 <| .nil _ _) ?_
        refine block_normal ?_
        refine then_normal ?_
        refine aw_p1 (
          .a 1 7 <| .p (does_i (((t - 1 : Nat) : Int) - 1) ((show (IntKind.wrap .i64 ((((t : Nat) : Int) - 1) - 1)) = (((t - 1 : Nat) : Int) - 1) from (by rw [wrap_i64 (by omega) (by omega)]; omega))) .i64) <| .a 1 7 <| .nil _ _) ?_
        refine then_normal ?_
        refine al_w [(2, .pointer (some ⟨1, 0, none⟩)), (3, .pointer (some ⟨2, 0, none⟩)), (4, .pointer (some ⟨3, 0, none⟩)), (5, .pointer (some ⟨4, 0, none⟩)), (6, .pointer (some ⟨5, 0, none⟩)), (7, .pointer (some ⟨6, 0, none⟩)), (8, .int .i64 ((((t - 1) : Nat) : Int) - 1))] [(1, ⟨(lds a), 27, true, 1⟩), (2, ⟨(lds b), 27, true, 1⟩), (3, ⟨[.int .u64 0, .int .u64 0, .int .u64 0, .int .u64 0, .int .u64 0, .int .u64 0, .int .u64 0], 27, true, 1⟩), (4, ⟨[.int .u64 0, .int .u64 0, .int .u64 0, .int .u64 0, .int .u64 0, .int .u64 0, .int .u64 0], 27, true, 1⟩), (5, ⟨(lds ((2 * q) + 1)), 27, true, 1⟩), (6, ⟨(lds ((2 * r) - b)), 27, true, 1⟩)] ?_
        exact ih1 ((t - 1), ((2 * q) + 1), ((2 * r) - b)) (show ((t - 1) ≤ 224) ∧ (((2 * q) + 1) * b + ((2 * r) - b) = a / 2 ^ (t - 1)) ∧ (0 ≤ ((2 * r) - b)) ∧ (((2 * r) - b) < b) from ⟨by omega, by (have hs := Sp.half_step a (t := t) (by omega); rw [← hq] at hs; simp only [Int.add_mul, Int.mul_assoc, Int.one_mul] at hs ⊢; omega), by omega, by omega⟩) (show (t - 1) < t from by omega)
      · have h4p : ¬ ((0 ≤ ((2 * r) - b))) := by first | (simpa using h4) | (have h4q := h4; simp at h4q; omega) | (have h4q := bx2 h4; simp at h4q; omega)
        refine aw_sk ?_
        refine block_normal ?_
        refine then_normal ?_
        refine aw_p1 (
          .a 1 7 <| .p (does_i (((t - 1 : Nat) : Int) - 1) ((show (IntKind.wrap .i64 ((((t : Nat) : Int) - 1) - 1)) = (((t - 1 : Nat) : Int) - 1) from (by rw [wrap_i64 (by omega) (by omega)]; omega))) .i64) <| .a 1 7 <| .nil _ _) ?_
        refine then_normal ?_
        refine al_w [(2, .pointer (some ⟨1, 0, none⟩)), (3, .pointer (some ⟨2, 0, none⟩)), (4, .pointer (some ⟨3, 0, none⟩)), (5, .pointer (some ⟨4, 0, none⟩)), (6, .pointer (some ⟨5, 0, none⟩)), (7, .pointer (some ⟨6, 0, none⟩)), (8, .int .i64 ((((t - 1) : Nat) : Int) - 1))] [(1, ⟨(lds a), 27, true, 1⟩), (2, ⟨(lds b), 27, true, 1⟩), (3, ⟨[.int .u64 0, .int .u64 0, .int .u64 0, .int .u64 0, .int .u64 0, .int .u64 0, .int .u64 0], 27, true, 1⟩), (4, ⟨[.int .u64 0, .int .u64 0, .int .u64 0, .int .u64 0, .int .u64 0, .int .u64 0, .int .u64 0], 27, true, 1⟩), (5, ⟨(lds (2 * q)), 27, true, 1⟩), (6, ⟨(lds (2 * r)), 27, true, 1⟩)] ?_
        exact ih1 ((t - 1), (2 * q), (2 * r)) (show ((t - 1) ≤ 224) ∧ ((2 * q) * b + (2 * r) = a / 2 ^ (t - 1)) ∧ (0 ≤ (2 * r)) ∧ ((2 * r) < b) from ⟨by omega, by (have hs := Sp.half_step a (t := t) (by omega); rw [← hq] at hs; simp only [Int.add_mul, Int.mul_assoc, Int.one_mul] at hs ⊢; omega), by omega, by omega⟩) (show (t - 1) < t from by omega)
  · have h1p : ¬ (((((t : Nat) : Int) - 1) ≥ 0)) := by first | (simpa using h1) | (have h1q := h1; simp at h1q; omega) | (have h1q := bx2 h1; simp at h1q; omega)
    refine aw_ex 0 ?_
    refine then_exit ?_
    refine then_exit ?_
    refine block_exit ?_
    refine then_normal ?_
    refine aw_d 31 (
      .a 4 7 <| .nil _ _) ?_
    refine aw_rt ?_
    exact en_ret [lval q, lval r] (show (.tuple #[lval q, lval r] : Value) = (.tuple #[lval (a / b), lval (a % b)]) from (congrArg (fun z : List Value => Value.tuple z.toArray) (lcons (congrArg (fun z : List Value => Value.agg z.toArray) (lcons (congrArg (Value.int .u64) (show (Sp.dgt q 0) = (Sp.dgt (a / b) 0) from by (have t0 : t = 0 := (by omega); subst t0; have e := Sp.share_end hr0 hr1 hq; first | exact congrArg (fun z => Sp.dgt z _) e.1 | exact congrArg (fun z => Sp.dgt z _) e.2))) (lcons (congrArg (Value.int .u64) (show (Sp.dgt q 1) = (Sp.dgt (a / b) 1) from by (have t0 : t = 0 := (by omega); subst t0; have e := Sp.share_end hr0 hr1 hq; first | exact congrArg (fun z => Sp.dgt z _) e.1 | exact congrArg (fun z => Sp.dgt z _) e.2))) (lcons (congrArg (Value.int .u64) (show (Sp.dgt q 2) = (Sp.dgt (a / b) 2) from by (have t0 : t = 0 := (by omega); subst t0; have e := Sp.share_end hr0 hr1 hq; first | exact congrArg (fun z => Sp.dgt z _) e.1 | exact congrArg (fun z => Sp.dgt z _) e.2))) (lcons (congrArg (Value.int .u64) (show (Sp.dgt q 3) = (Sp.dgt (a / b) 3) from by (have t0 : t = 0 := (by omega); subst t0; have e := Sp.share_end hr0 hr1 hq; first | exact congrArg (fun z => Sp.dgt z _) e.1 | exact congrArg (fun z => Sp.dgt z _) e.2))) (lcons (congrArg (Value.int .u64) (show (Sp.dgt q 4) = (Sp.dgt (a / b) 4) from by (have t0 : t = 0 := (by omega); subst t0; have e := Sp.share_end hr0 hr1 hq; first | exact congrArg (fun z => Sp.dgt z _) e.1 | exact congrArg (fun z => Sp.dgt z _) e.2))) (lcons (congrArg (Value.int .u64) (show (Sp.dgt q 5) = (Sp.dgt (a / b) 5) from by (have t0 : t = 0 := (by omega); subst t0; have e := Sp.share_end hr0 hr1 hq; first | exact congrArg (fun z => Sp.dgt z _) e.1 | exact congrArg (fun z => Sp.dgt z _) e.2))) (lcons (congrArg (Value.int .u64) (show (Sp.dgt q 6) = (Sp.dgt (a / b) 6) from by (have t0 : t = 0 := (by omega); subst t0; have e := Sp.share_end hr0 hr1 hq; first | exact congrArg (fun z => Sp.dgt z _) e.1 | exact congrArg (fun z => Sp.dgt z _) e.2))) rfl)))))))) (lcons (congrArg (fun z : List Value => Value.agg z.toArray) (lcons (congrArg (Value.int .u64) (show (Sp.dgt r 0) = (Sp.dgt (a % b) 0) from by (have t0 : t = 0 := (by omega); subst t0; have e := Sp.share_end hr0 hr1 hq; first | exact congrArg (fun z => Sp.dgt z _) e.1 | exact congrArg (fun z => Sp.dgt z _) e.2))) (lcons (congrArg (Value.int .u64) (show (Sp.dgt r 1) = (Sp.dgt (a % b) 1) from by (have t0 : t = 0 := (by omega); subst t0; have e := Sp.share_end hr0 hr1 hq; first | exact congrArg (fun z => Sp.dgt z _) e.1 | exact congrArg (fun z => Sp.dgt z _) e.2))) (lcons (congrArg (Value.int .u64) (show (Sp.dgt r 2) = (Sp.dgt (a % b) 2) from by (have t0 : t = 0 := (by omega); subst t0; have e := Sp.share_end hr0 hr1 hq; first | exact congrArg (fun z => Sp.dgt z _) e.1 | exact congrArg (fun z => Sp.dgt z _) e.2))) (lcons (congrArg (Value.int .u64) (show (Sp.dgt r 3) = (Sp.dgt (a % b) 3) from by (have t0 : t = 0 := (by omega); subst t0; have e := Sp.share_end hr0 hr1 hq; first | exact congrArg (fun z => Sp.dgt z _) e.1 | exact congrArg (fun z => Sp.dgt z _) e.2))) (lcons (congrArg (Value.int .u64) (show (Sp.dgt r 4) = (Sp.dgt (a % b) 4) from by (have t0 : t = 0 := (by omega); subst t0; have e := Sp.share_end hr0 hr1 hq; first | exact congrArg (fun z => Sp.dgt z _) e.1 | exact congrArg (fun z => Sp.dgt z _) e.2))) (lcons (congrArg (Value.int .u64) (show (Sp.dgt r 5) = (Sp.dgt (a % b) 5) from by (have t0 : t = 0 := (by omega); subst t0; have e := Sp.share_end hr0 hr1 hq; first | exact congrArg (fun z => Sp.dgt z _) e.1 | exact congrArg (fun z => Sp.dgt z _) e.2))) (lcons (congrArg (Value.int .u64) (show (Sp.dgt r 6) = (Sp.dgt (a % b) 6) from by (have t0 : t = 0 := (by omega); subst t0; have e := Sp.share_end hr0 hr1 hq; first | exact congrArg (fun z => Sp.dgt z _) e.1 | exact congrArg (fun z => Sp.dgt z _) e.2))) rfl)))))))) rfl))))

theorem lcommon_ok (m n : Int) (z0 : 0 ≤ m) (z1 : m < 13479973333575319897333507543509815336818572211270286240551805124608) (z2 : 0 < n) (z3 : n < 13479973333575319897333507543509815336818572211270286240551805124608) :
    AC Tryd.prog 41 0 ([lval m, lval n]) [] (lval (Int.gcd m n : Int)) [] := by
  refine ac_in Tryd.func41 (fun w0 W pin => ?_)
  refine aw_p 3 (
    .a 3 1 <| .nil _ _) ?_
  refine aw_p 7 (
    .a 1 4 <| .nil _ _) ?_
  refine aw_sq 14 15 ?_
  refine aw_bl 0 29 ?_
  refine aw_lp 59 ?_
  refine al_w [(2, .pointer (some ⟨1, 0, none⟩)), (3, .pointer (some ⟨2, 0, none⟩)), (4, .pointer (some ⟨3, 0, none⟩)), (5, .int .i64 ((0 : Nat) : Int))] [(1, ⟨(lds m), 27, true, 1⟩), (2, ⟨(lds n), 27, true, 1⟩), (3, ⟨[.int .u64 0, .int .u64 0, .int .u64 0, .int .u64 0, .int .u64 0, .int .u64 0, .int .u64 0], 27, true, 1⟩)] ?_
  refine al_ind (fun i : Int × Int × Nat => (fun (a : Int) (b : Int) (t : Nat) => mkSt 0 [(2, .pointer (some ⟨1, 0, none⟩)), (3, .pointer (some ⟨2, 0, none⟩)), (4, .pointer (some ⟨3, 0, none⟩)), (5, .int .i64 ((t : Nat) : Int))] [(1, ⟨(lds a), 27, true, 1⟩), (2, ⟨(lds b), 27, true, 1⟩), (3, ⟨[.int .u64 0, .int .u64 0, .int .u64 0, .int .u64 0, .int .u64 0, .int .u64 0, .int .u64 0], 27, true, 1⟩)]) i.1 i.2.1 i.2.2) (fun i : Int × Int × Nat => (fun (a : Int) (b : Int) (t : Nat) => (0 ≤ a) ∧ (a < 13479973333575319897333507543509815336818572211270286240551805124608) ∧ (0 < b) ∧ (b < 13479973333575319897333507543509815336818572211270286240551805124608) ∧ (Int.gcd a b * 2 ^ t = Int.gcd m n) ∧ (b * 2 ^ t = n)) i.1 i.2.1 i.2.2) (fun i : Int × Int × Nat => (fun (a : Int) (b : Int) (t : Nat) => a.toNat) i.1 i.2.1 i.2.2) (fun i hi1 ih1 => ?_) (m, n, 0) (show (0 ≤ m) ∧ (m < 13479973333575319897333507543509815336818572211270286240551805124608) ∧ (0 < n) ∧ (n < 13479973333575319897333507543509815336818572211270286240551805124608) ∧ (Int.gcd m n * 2 ^ 0 = Int.gcd m n) ∧ (n * 2 ^ 0 = n) from ⟨by exact z0, by exact z1, by exact z2, by exact z3, by simp, by simp⟩)
  obtain ⟨a, b, t⟩ := i
  have hi1' : (0 ≤ a) ∧ (a < 13479973333575319897333507543509815336818572211270286240551805124608) ∧ (0 < b) ∧ (b < 13479973333575319897333507543509815336818572211270286240551805124608) ∧ (Int.gcd a b * 2 ^ t = Int.gcd m n) ∧ (b * 2 ^ t = n) := hi1
  obtain ⟨ha0, ha1, hb0, hb1, hg, hn⟩ := hi1'
  show AL _ _ _ (mkSt 0 [(2, .pointer (some ⟨1, 0, none⟩)), (3, .pointer (some ⟨2, 0, none⟩)), (4, .pointer (some ⟨3, 0, none⟩)), (5, .int .i64 ((t : Nat) : Int))] [(1, ⟨(lds a), 27, true, 1⟩), (2, ⟨(lds b), 27, true, 1⟩), (3, ⟨[.int .u64 0, .int .u64 0, .int .u64 0, .int .u64 0, .int .u64 0, .int .u64 0, .int .u64 0], 27, true, 1⟩)]) _
  have ht := Sp.two_lt hb0 hn z3
  refine al_joinB (a = 0 ∨ a % 2 = 1 ∨ b % 2 = 1) (y := sb Tryd.f41 15) (S1 := mkSt 0 [(2, .pointer (some ⟨1, 0, none⟩)), (3, .pointer (some ⟨2, 0, none⟩)), (4, .pointer (some ⟨3, 0, none⟩)), (5, .int .i64 ((t : Nat) : Int))] [(1, ⟨(lds a), 27, true, 1⟩), (2, ⟨(lds b), 27, true, 1⟩), (3, ⟨[.int .u64 0, .int .u64 0, .int .u64 0, .int .u64 0, .int .u64 0, .int .u64 0, .int .u64 0], 27, true, 1⟩)]) (fun hF1 => ?_) (fun K1 => ?_)
  · refine aw_sq 30 31 ?_
    refine aw_bl 2 61 ?_
    refine aw_lp 123 ?_
    refine al_w [(2, .pointer (some ⟨1, 0, none⟩)), (3, .pointer (some ⟨2, 0, none⟩)), (4, .pointer (some ⟨3, 0, none⟩)), (5, .int .i64 ((t : Nat) : Int))] [(1, ⟨(lds a), 27, true, 1⟩), (2, ⟨(lds b), 27, true, 1⟩), (3, ⟨[.int .u64 0, .int .u64 0, .int .u64 0, .int .u64 0, .int .u64 0, .int .u64 0, .int .u64 0], 27, true, 1⟩)] ?_
    refine al_ind (fun i : Int × Int => (fun (c : Int) (d : Int) => mkSt 0 [(2, .pointer (some ⟨1, 0, none⟩)), (3, .pointer (some ⟨2, 0, none⟩)), (4, .pointer (some ⟨3, 0, none⟩)), (5, .int .i64 ((t : Nat) : Int))] [(1, ⟨(lds c), 27, true, 1⟩), (2, ⟨(lds d), 27, true, 1⟩), (3, ⟨[.int .u64 0, .int .u64 0, .int .u64 0, .int .u64 0, .int .u64 0, .int .u64 0, .int .u64 0], 27, true, 1⟩)]) i.1 i.2) (fun i : Int × Int => (fun (c : Int) (d : Int) => (0 ≤ c) ∧ (c < 13479973333575319897333507543509815336818572211270286240551805124608) ∧ (0 < d) ∧ (d < 13479973333575319897333507543509815336818572211270286240551805124608) ∧ (c = 0 ∨ c % 2 = 1 ∨ d % 2 = 1) ∧ (Int.gcd c d = Int.gcd a b)) i.1 i.2) (fun i : Int × Int => (fun (c : Int) (d : Int) => c.toNat + d.toNat) i.1 i.2) (fun i hi2 ih2 => ?_) (a, b) (show (0 ≤ a) ∧ (a < 13479973333575319897333507543509815336818572211270286240551805124608) ∧ (0 < b) ∧ (b < 13479973333575319897333507543509815336818572211270286240551805124608) ∧ (a = 0 ∨ a % 2 = 1 ∨ b % 2 = 1) ∧ (Int.gcd a b = Int.gcd a b) from ⟨by omega, by omega, by omega, by omega, by omega, by rfl⟩)
    obtain ⟨c, d⟩ := i
    have hi2' : (0 ≤ c) ∧ (c < 13479973333575319897333507543509815336818572211270286240551805124608) ∧ (0 < d) ∧ (d < 13479973333575319897333507543509815336818572211270286240551805124608) ∧ (c = 0 ∨ c % 2 = 1 ∨ d % 2 = 1) ∧ (Int.gcd c d = Int.gcd a b) := hi2
    obtain ⟨hc0, hc1, hd0, hd1, hx, hh⟩ := hi2'
    show AL _ _ _ (mkSt 0 [(2, .pointer (some ⟨1, 0, none⟩)), (3, .pointer (some ⟨2, 0, none⟩)), (4, .pointer (some ⟨3, 0, none⟩)), (5, .int .i64 ((t : Nat) : Int))] [(1, ⟨(lds c), 27, true, 1⟩), (2, ⟨(lds d), 27, true, 1⟩), (3, ⟨[.int .u64 0, .int .u64 0, .int .u64 0, .int .u64 0, .int .u64 0, .int .u64 0, .int .u64 0], 27, true, 1⟩)]) _
    refine al_round ?_
    refine aw_sq 246 247 ?_
    refine aw_p 493 (
      .a 2 4 <| .p (does_e (decide (c ≠ 0)) ((show (!(((Sp.dgt c 0) == 0) && (((Sp.dgt c 1) == 0) && (((Sp.dgt c 2) == 0) && (((Sp.dgt c 3) == 0) && (((Sp.dgt c 4) == 0) && (((Sp.dgt c 5) == 0) && (((Sp.dgt c 6) == 0) && true)))))))) = (decide (c ≠ 0)) from Sp.nz_dig (by omega) (by omega)))) <| .nil _ _) ?_
    refine aw_cd 986 987 (decide (c ≠ 0)) (fun h1 => ?_) (fun h1 => ?_)
    · have h1p : ((c ≠ 0)) := by first | (simpa using h1) | (have h1q := h1; simp at h1q; omega) | (have h1q := bx1 h1; simp at h1q; omega)
      refine aw_sk ?_
      refine then_normal ?_
      refine aw_bl 3 495 ?_
      refine aw_bl 4 991 ?_
      refine aw_p 1983 (
        .a 2 4 <| .p (does_i ((Sp.dgt c 0) % 2) (Sp.umod (Sp.dgt_bd c 0).1) .u64) <| .p (does_b (decide (c % 2 = 0)) (Sp.par_dig0 _)) <| .a 1 4 <| .nil _ _) ?_
      refine aw_cd 3966 3967 (decide (c % 2 = 0)) (fun h2 => ?_) (fun h2 => ?_)
      · have h2p : ((c % 2 = 0)) := by first | (simpa using h2) | (have h2q := h2; simp at h2q; omega) | (have h2q := bx1 h2; simp at h2q; omega)
        refine aw_p1 (
          .a 1 4 <| .p (does_c (lhalf_ok c (by omega) (by omega))) <| .a 1 4 <| .nil _ _) ?_
        refine block_normal ?_
        refine block_normal ?_
        refine then_normal ?_
        refine al_w [(2, .pointer (some ⟨1, 0, none⟩)), (3, .pointer (some ⟨2, 0, none⟩)), (4, .pointer (some ⟨3, 0, none⟩)), (5, .int .i64 ((t : Nat) : Int))] [(1, ⟨(lds (c / 2)), 27, true, 1⟩), (2, ⟨(lds d), 27, true, 1⟩), (3, ⟨[.int .u64 0, .int .u64 0, .int .u64 0, .int .u64 0, .int .u64 0, .int .u64 0, .int .u64 0], 27, true, 1⟩)] ?_
        exact ih2 ((c / 2), d) (show (0 ≤ (c / 2)) ∧ ((c / 2) < 13479973333575319897333507543509815336818572211270286240551805124608) ∧ (0 < d) ∧ (d < 13479973333575319897333507543509815336818572211270286240551805124608) ∧ ((c / 2) = 0 ∨ (c / 2) % 2 = 1 ∨ d % 2 = 1) ∧ (Int.gcd (c / 2) d = Int.gcd a b) from ⟨by omega, by omega, by omega, by omega, by omega, by (rw [← hh]; first | exact Sp.gcd_half_left (by omega) (by omega) | exact Sp.gcd_half_right (by omega) (by omega) | exact Sp.gcd_sub c d | exact Sp.gcd_sub' c d)⟩) (show (c / 2).toNat + d.toNat < c.toNat + d.toNat from by omega)
      · have h2p : ¬ ((c % 2 = 0)) := by first | (simpa using h2) | (have h2q := h2; simp at h2q; omega) | (have h2q := bx2 h2; simp at h2q; omega)
        refine aw_p 7935 (
          .a 2 4 <|
          .p (does_e true (((show (!(((Sp.dgt d 0) == 0) && (((Sp.dgt d 1) == 0) && (((Sp.dgt d 2) == 0) && (((Sp.dgt d 3) == 0) && (((Sp.dgt d 4) == 0) && (((Sp.dgt d 5) == 0) && (((Sp.dgt d 6) == 0) && true)))))))) = (decide (d ≠ 0)) from Sp.nz_dig (by omega) (by omega))).trans ((show (decide (d ≠ 0)) = true from decide_eq_true (by omega))))) <|
          .a 3 4 <| .p (does_i ((Sp.dgt d 0) % 2) (Sp.umod (Sp.dgt_bd d 0).1) .u64) <| .p (does_b (decide (d % 2 = 0)) (Sp.par_dig0 _)) <| .a 2 4 <| .nil _ _) ?_
        refine aw_cd 15870 15871 (decide (d % 2 = 0)) (fun h3 => ?_) (fun h3 => ?_)
        · have h3p : ((d % 2 = 0)) := by first | (simpa using h3) | (have h3q := h3; simp at h3q; omega) | (have h3q := bx1 h3; simp at h3q; omega)
          refine aw_p1 (
            .a 1 4 <| .p (does_c (lhalf_ok d (by omega) (by omega))) <| .a 1 4 <| .nil _ _) ?_
          refine block_normal ?_
          refine block_normal ?_
          refine then_normal ?_
          refine al_w [(2, .pointer (some ⟨1, 0, none⟩)), (3, .pointer (some ⟨2, 0, none⟩)), (4, .pointer (some ⟨3, 0, none⟩)), (5, .int .i64 ((t : Nat) : Int))] [(1, ⟨(lds c), 27, true, 1⟩), (2, ⟨(lds (d / 2)), 27, true, 1⟩), (3, ⟨[.int .u64 0, .int .u64 0, .int .u64 0, .int .u64 0, .int .u64 0, .int .u64 0, .int .u64 0], 27, true, 1⟩)] ?_
          exact ih2 (c, (d / 2)) (show (0 ≤ c) ∧ (c < 13479973333575319897333507543509815336818572211270286240551805124608) ∧ (0 < (d / 2)) ∧ ((d / 2) < 13479973333575319897333507543509815336818572211270286240551805124608) ∧ (c = 0 ∨ c % 2 = 1 ∨ (d / 2) % 2 = 1) ∧ (Int.gcd c (d / 2) = Int.gcd a b) from ⟨by omega, by omega, by omega, by omega, by omega, by (rw [← hh]; first | exact Sp.gcd_half_left (by omega) (by omega) | exact Sp.gcd_half_right (by omega) (by omega) | exact Sp.gcd_sub c d | exact Sp.gcd_sub' c d)⟩) (show c.toNat + (d / 2).toNat < c.toNat + d.toNat from by omega)
        · have h3p : ¬ ((d % 2 = 0)) := by first | (simpa using h3) | (have h3q := h3; simp at h3q; omega) | (have h3q := bx2 h3; simp at h3q; omega)
          refine aw_p 31743 (
            .a 2 4 <| .p (does_c (lminus_ok c d)) <| .p (does_c (lsign_ok (c - d) (by omega) (by omega))) <| .p (does_b (decide (0 ≤ (c - d))) (Sp.sgn_ge _)) <| .a 1 4 <| .nil _ _) ?_
          refine aw_w [(2, .pointer (some ⟨1, 0, none⟩)), (3, .pointer (some ⟨2, 0, none⟩)), (4, .pointer (some ⟨3, 0, none⟩)), (5, .int .i64 ((t : Nat) : Int)), (34, .bool (decide (c ≠ 0))), (39, .bool (decide (c % 2 = 0))), (46, .bool (decide (d % 2 = 0))), (58, .bool (decide (0 ≤ (c - d))))] [(1, ⟨(lds c), 27, true, 1⟩), (2, ⟨(lds d), 27, true, 1⟩), (3, ⟨[.int .u64 0, .int .u64 0, .int .u64 0, .int .u64 0, .int .u64 0, .int .u64 0, .int .u64 0], 27, true, 1⟩)] ?_
          refine aw_cd 63486 63487 (decide (0 ≤ (c - d))) (fun h4 => ?_) (fun h4 => ?_)
          · have h4p : ((0 ≤ (c - d))) := by first | (simpa using h4) | (have h4q := h4; simp at h4q; omega) | (have h4q := bx1 h4; simp at h4q; omega)
            refine aw_p1 (
              .a 2 4 <| .p (does_c (lminus_ok c d)) <| .a 1 4 <| .nil _ _) ?_
            refine block_normal ?_
            refine block_normal ?_
            refine then_normal ?_
            refine al_w [(2, .pointer (some ⟨1, 0, none⟩)), (3, .pointer (some ⟨2, 0, none⟩)), (4, .pointer (some ⟨3, 0, none⟩)), (5, .int .i64 ((t : Nat) : Int))] [(1, ⟨(lds (c - d)), 27, true, 1⟩), (2, ⟨(lds d), 27, true, 1⟩), (3, ⟨[.int .u64 0, .int .u64 0, .int .u64 0, .int .u64 0, .int .u64 0, .int .u64 0, .int .u64 0], 27, true, 1⟩)] ?_
            exact ih2 ((c - d), d) (show (0 ≤ (c - d)) ∧ ((c - d) < 13479973333575319897333507543509815336818572211270286240551805124608) ∧ (0 < d) ∧ (d < 13479973333575319897333507543509815336818572211270286240551805124608) ∧ ((c - d) = 0 ∨ (c - d) % 2 = 1 ∨ d % 2 = 1) ∧ (Int.gcd (c - d) d = Int.gcd a b) from ⟨by omega, by omega, by omega, by omega, by omega, by (rw [← hh]; first | exact Sp.gcd_half_left (by omega) (by omega) | exact Sp.gcd_half_right (by omega) (by omega) | exact Sp.gcd_sub c d | exact Sp.gcd_sub' c d)⟩) (show (c - d).toNat + d.toNat < c.toNat + d.toNat from by omega)
          · have h4p : ¬ ((0 ≤ (c - d))) := by first | (simpa using h4) | (have h4q := h4; simp at h4q; omega) | (have h4q := bx2 h4; simp at h4q; omega)
            refine aw_d1 (
              .a 2 4 <| .p (does_c (lminus_ok d c)) <| .a 3 4 <| .nil _ _) ?_
            refine block_normal ?_
            refine block_normal ?_
            refine then_normal ?_
            refine al_w [(2, .pointer (some ⟨1, 0, none⟩)), (3, .pointer (some ⟨2, 0, none⟩)), (4, .pointer (some ⟨3, 0, none⟩)), (5, .int .i64 ((t : Nat) : Int))] [(1, ⟨(lds (d - c)), 27, true, 1⟩), (2, ⟨(lds c), 27, true, 1⟩), (3, ⟨[.int .u64 0, .int .u64 0, .int .u64 0, .int .u64 0, .int .u64 0, .int .u64 0, .int .u64 0], 27, true, 1⟩)] ?_
            exact ih2 ((d - c), c) (show (0 ≤ (d - c)) ∧ ((d - c) < 13479973333575319897333507543509815336818572211270286240551805124608) ∧ (0 < c) ∧ (c < 13479973333575319897333507543509815336818572211270286240551805124608) ∧ ((d - c) = 0 ∨ (d - c) % 2 = 1 ∨ c % 2 = 1) ∧ (Int.gcd (d - c) c = Int.gcd a b) from ⟨by omega, by omega, by omega, by omega, by omega, by (rw [← hh]; first | exact Sp.gcd_half_left (by omega) (by omega) | exact Sp.gcd_half_right (by omega) (by omega) | exact Sp.gcd_sub c d | exact Sp.gcd_sub' c d)⟩) (show (d - c).toNat + c.toNat < c.toNat + d.toNat from by omega)
    · have h1p : ¬ ((c ≠ 0)) := by first | (simpa using h1) | (have h1q := h1; simp at h1q; omega) | (have h1q := bx2 h1; simp at h1q; omega)
      refine aw_ex 2 ?_
      refine then_exit ?_
      refine then_exit ?_
      refine block_exit ?_
      refine then_normal ?_
      refine aw_sq 62 63 ?_
      refine aw_p 125 (
        .a 2 4 <| .nil _ _) ?_
      refine aw_bl 5 251 ?_
      refine aw_lp 503 ?_
      refine al_w [(3, .pointer (some ⟨2, 0, none⟩)), (4, .pointer (some ⟨3, 0, none⟩)), (67, .int .i64 ((t : Nat) : Int)), (68, .int .i64 ((0 : Nat) : Int))] [(2, ⟨(lds d), 27, true, 1⟩), (3, ⟨[.int .u64 0, .int .u64 0, .int .u64 0, .int .u64 0, .int .u64 0, .int .u64 0, .int .u64 0], 27, true, 1⟩)] ?_
      refine al_ind (fun i : Nat × Int => (fun (j : Nat) (e : Int) => mkSt 0 [(3, .pointer (some ⟨2, 0, none⟩)), (4, .pointer (some ⟨3, 0, none⟩)), (67, .int .i64 ((t : Nat) : Int)), (68, .int .i64 ((j : Nat) : Int))] [(2, ⟨(lds e), 27, true, 1⟩), (3, ⟨[.int .u64 0, .int .u64 0, .int .u64 0, .int .u64 0, .int .u64 0, .int .u64 0, .int .u64 0], 27, true, 1⟩)]) i.1 i.2) (fun i : Nat × Int => (fun (j : Nat) (e : Int) => (j ≤ t) ∧ (e = d * 2 ^ j)) i.1 i.2) (fun i : Nat × Int => (fun (j : Nat) (e : Int) => t - j) i.1 i.2) (fun i hi3 ih3 => ?_) (0, d) (show (0 ≤ t) ∧ (d = d * 2 ^ 0) from ⟨by omega, by simp⟩)
      obtain ⟨j, e⟩ := i
      have hi3' : (j ≤ t) ∧ (e = d * 2 ^ j) := hi3
      obtain ⟨hj, he⟩ := hi3'
      show AL _ _ _ (mkSt 0 [(3, .pointer (some ⟨2, 0, none⟩)), (4, .pointer (some ⟨3, 0, none⟩)), (67, .int .i64 ((t : Nat) : Int)), (68, .int .i64 ((j : Nat) : Int))] [(2, ⟨(lds e), 27, true, 1⟩), (3, ⟨[.int .u64 0, .int .u64 0, .int .u64 0, .int .u64 0, .int .u64 0, .int .u64 0, .int .u64 0], 27, true, 1⟩)]) _
      refine al_round ?_
      refine aw_p 1007 (
        .a 1 4 <| .nil _ _) ?_
      refine aw_sq 2014 2015 ?_
      refine aw_cd 4028 4029 (decide (((j : Nat) : Int) < ((t : Nat) : Int))) (fun h5 => ?_) (fun h5 => ?_)
      · have h5p : ((((j : Nat) : Int) < ((t : Nat) : Int))) := by first | (simpa using h5) | (have h5q := h5; simp at h5q; omega) | (have h5q := bx1 h5; simp at h5q; omega)
        refine aw_sk ?_
        refine then_normal ?_
        refine aw_sq 4030 4031 ?_
        refine aw_bl 6 8061 ?_
        refine aw_p1 (
          .a 1 4 <| .p (does_c (ltwice_ok e)) <| .a 1 4 <| .nil _ _) ?_
        refine block_normal ?_
        refine then_normal ?_
        refine aw_p1 (
          .p (does_i (((j : Nat) : Int) + 1) (wrap_i64 (by omega) (by omega)) .i64) <| .a 1 4 <| .nil _ _) ?_
        refine then_normal ?_
        refine al_w [(3, .pointer (some ⟨2, 0, none⟩)), (4, .pointer (some ⟨3, 0, none⟩)), (67, .int .i64 ((t : Nat) : Int)), (68, .int .i64 (((j + 1) : Nat) : Int))] [(2, ⟨(lds (2 * e)), 27, true, 1⟩), (3, ⟨[.int .u64 0, .int .u64 0, .int .u64 0, .int .u64 0, .int .u64 0, .int .u64 0, .int .u64 0], 27, true, 1⟩)] ?_
        exact ih3 ((j + 1), (2 * e)) (show ((j + 1) ≤ t) ∧ ((2 * e) = d * 2 ^ (j + 1)) from ⟨by omega, by (rw [he]; exact Sp.pow_double d j)⟩) (show t - (j + 1) < t - j from by omega)
      · have h5p : ¬ ((((j : Nat) : Int) < ((t : Nat) : Int))) := by first | (simpa using h5) | (have h5q := h5; simp at h5q; omega) | (have h5q := bx2 h5; simp at h5q; omega)
        refine aw_ex 5 ?_
        refine then_exit ?_
        refine then_exit ?_
        refine block_exit ?_
        refine then_normal ?_
        refine aw_p 127 (
          .a 2 4 <| .nil _ _) ?_
        refine aw_rt ?_
        exact en_ret [lval e] (show (lval e : Value) = (lval (Int.gcd m n : Int)) from (congrArg (fun z : List Value => Value.agg z.toArray) (lcons (congrArg (Value.int .u64) (show (Sp.dgt e 0) = (Sp.dgt (Int.gcd m n : Int) 0) from by (rw [show e = (Int.gcd m n : Int) from (by rw [he, show j = t by omega, ← hg, ← hh, show c = 0 by omega]; exact Sp.common_end hd0)]))) (lcons (congrArg (Value.int .u64) (show (Sp.dgt e 1) = (Sp.dgt (Int.gcd m n : Int) 1) from by (rw [show e = (Int.gcd m n : Int) from (by rw [he, show j = t by omega, ← hg, ← hh, show c = 0 by omega]; exact Sp.common_end hd0)]))) (lcons (congrArg (Value.int .u64) (show (Sp.dgt e 2) = (Sp.dgt (Int.gcd m n : Int) 2) from by (rw [show e = (Int.gcd m n : Int) from (by rw [he, show j = t by omega, ← hg, ← hh, show c = 0 by omega]; exact Sp.common_end hd0)]))) (lcons (congrArg (Value.int .u64) (show (Sp.dgt e 3) = (Sp.dgt (Int.gcd m n : Int) 3) from by (rw [show e = (Int.gcd m n : Int) from (by rw [he, show j = t by omega, ← hg, ← hh, show c = 0 by omega]; exact Sp.common_end hd0)]))) (lcons (congrArg (Value.int .u64) (show (Sp.dgt e 4) = (Sp.dgt (Int.gcd m n : Int) 4) from by (rw [show e = (Int.gcd m n : Int) from (by rw [he, show j = t by omega, ← hg, ← hh, show c = 0 by omega]; exact Sp.common_end hd0)]))) (lcons (congrArg (Value.int .u64) (show (Sp.dgt e 5) = (Sp.dgt (Int.gcd m n : Int) 5) from by (rw [show e = (Int.gcd m n : Int) from (by rw [he, show j = t by omega, ← hg, ← hh, show c = 0 by omega]; exact Sp.common_end hd0)]))) (lcons (congrArg (Value.int .u64) (show (Sp.dgt e 6) = (Sp.dgt (Int.gcd m n : Int) 6) from by (rw [show e = (Int.gcd m n : Int) from (by rw [he, show j = t by omega, ← hg, ← hh, show c = 0 by omega]; exact Sp.common_end hd0)]))) rfl)))))))))
  · skip
    refine al_round ?_
    refine aw_sq 118 119 ?_
    refine aw_joinF (a = 0 ∨ a % 2 = 1) (y := sb Tryd.f41 237) (S1 := mkSt 0 [(2, .pointer (some ⟨1, 0, none⟩)), (3, .pointer (some ⟨2, 0, none⟩)), (4, .pointer (some ⟨3, 0, none⟩)), (5, .int .i64 ((t : Nat) : Int)), (25, .bool false)] [(1, ⟨(lds a), 27, true, 1⟩), (2, ⟨(lds b), 27, true, 1⟩), (3, ⟨[.int .u64 0, .int .u64 0, .int .u64 0, .int .u64 0, .int .u64 0, .int .u64 0, .int .u64 0], 27, true, 1⟩)]) (fun hF2 => ?_) (fun K2 => ?_)
    · refine aw_fl 475 ?_
      refine aw_ex 0 ?_
      refine then_exit ?_
      refine then_exit ?_
      refine block_exit ?_
      refine then_normal ?_
      refine aw_w [(2, .pointer (some ⟨1, 0, none⟩)), (3, .pointer (some ⟨2, 0, none⟩)), (4, .pointer (some ⟨3, 0, none⟩)), (5, .int .i64 ((t : Nat) : Int))] [(1, ⟨(lds a), 27, true, 1⟩), (2, ⟨(lds b), 27, true, 1⟩), (3, ⟨[.int .u64 0, .int .u64 0, .int .u64 0, .int .u64 0, .int .u64 0, .int .u64 0, .int .u64 0], 27, true, 1⟩)] ?_
      exact K1 (by omega)
    rcases Bool.eq_false_or_eq_true (decide (a ≠ 0)) with h6 | h6
    · have h6p : ((a ≠ 0)) := by first | (simpa using h6) | (have h6q := h6; simp at h6q; omega) | (have h6q := bx1 h6; simp at h6q; omega)
      rcases Bool.eq_false_or_eq_true (decide (a % 2 = 0)) with h7 | h7
      · have h7p : ((a % 2 = 0)) := by first | (simpa using h7) | (have h7q := h7; simp at h7q; omega) | (have h7q := bx1 h7; simp at h7q; omega)
        refine aw_p 237 (
          .a 2 4 <| .p (does_e true (((show (!(((Sp.dgt a 0) == 0) && (((Sp.dgt a 1) == 0) && (((Sp.dgt a 2) == 0) && (((Sp.dgt a 3) == 0) && (((Sp.dgt a 4) == 0) && (((Sp.dgt a 5) == 0) && (((Sp.dgt a 6) == 0) && true)))))))) = (decide (a ≠ 0)) from Sp.nz_dig (by omega) (by omega))).trans (h6))) <| .a 3 4 <|
          .p (does_e true (((show (!(((Sp.dgt b 0) == 0) && (((Sp.dgt b 1) == 0) && (((Sp.dgt b 2) == 0) && (((Sp.dgt b 3) == 0) && (((Sp.dgt b 4) == 0) && (((Sp.dgt b 5) == 0) && (((Sp.dgt b 6) == 0) && true)))))))) = (decide (b ≠ 0)) from Sp.nz_dig (by omega) (by omega))).trans ((show (decide (b ≠ 0)) = true from decide_eq_true (by omega))))) <|
          .a 4 4 <| .p (does_i ((Sp.dgt a 0) % 2) (Sp.umod (Sp.dgt_bd a 0).1) .u64) <| .p (does_b true ((Sp.par_dig0 _).trans (h7))) <| .a 4 4 <| .p (does_i ((Sp.dgt b 0) % 2) (Sp.umod (Sp.dgt_bd b 0).1) .u64) <| .p (does_b (decide (b % 2 = 0)) (Sp.par_dig0 _)) <| .a 1 4 <| .nil _ _) ?_
        refine aw_cd 474 475 (decide (b % 2 = 0)) (fun h8 => ?_) (fun h8 => ?_)
        · have h8p : ((b % 2 = 0)) := by first | (simpa using h8) | (have h8q := h8; simp at h8q; omega) | (have h8q := bx1 h8; simp at h8q; omega)
          refine aw_sk ?_
          refine then_normal ?_
          refine aw_bl 1 239 ?_
          refine aw_d1 (
            .a 1 4 <| .p (does_c (lhalf_ok a (by omega) (by omega))) <| .a 1 4 <| .p (does_c (lhalf_ok b (by omega) (by omega))) <| .a 1 4 <| .p (does_i (((t : Nat) : Int) + 1) (wrap_i64 (by omega) (by omega)) .i64) <| .a 3 4 <| .nil _ _) ?_
          refine block_normal ?_
          refine then_normal ?_
          refine al_w [(2, .pointer (some ⟨1, 0, none⟩)), (3, .pointer (some ⟨2, 0, none⟩)), (4, .pointer (some ⟨3, 0, none⟩)), (5, .int .i64 (((t + 1) : Nat) : Int))] [(1, ⟨(lds (a / 2)), 27, true, 1⟩), (2, ⟨(lds (b / 2)), 27, true, 1⟩), (3, ⟨[.int .u64 0, .int .u64 0, .int .u64 0, .int .u64 0, .int .u64 0, .int .u64 0, .int .u64 0], 27, true, 1⟩)] ?_
          exact ih1 ((a / 2), (b / 2), (t + 1)) (show (0 ≤ (a / 2)) ∧ ((a / 2) < 13479973333575319897333507543509815336818572211270286240551805124608) ∧ (0 < (b / 2)) ∧ ((b / 2) < 13479973333575319897333507543509815336818572211270286240551805124608) ∧ (Int.gcd (a / 2) (b / 2) * 2 ^ (t + 1) = Int.gcd m n) ∧ ((b / 2) * 2 ^ (t + 1) = n) from ⟨by omega, by omega, by omega, by omega, by (rw [← hg, Sp.gcd_halves (a := a) (b := b) (by omega) (by omega), Nat.pow_succ]; grind), by (rw [← hn, Int.pow_succ]; have e : b = 2 * (b / 2) := (by omega); generalize b / 2 = c at *; subst e; grind)⟩) (show (a / 2).toNat < a.toNat from by omega)
        · have h8p : ¬ ((b % 2 = 0)) := by first | (simpa using h8) | (have h8q := h8; simp at h8q; omega) | (have h8q := bx2 h8; simp at h8q; omega)
          refine aw_ex 0 ?_
          refine then_exit ?_
          refine then_exit ?_
          refine block_exit ?_
          refine then_normal ?_
          refine aw_w [(2, .pointer (some ⟨1, 0, none⟩)), (3, .pointer (some ⟨2, 0, none⟩)), (4, .pointer (some ⟨3, 0, none⟩)), (5, .int .i64 ((t : Nat) : Int))] [(1, ⟨(lds a), 27, true, 1⟩), (2, ⟨(lds b), 27, true, 1⟩), (3, ⟨[.int .u64 0, .int .u64 0, .int .u64 0, .int .u64 0, .int .u64 0, .int .u64 0, .int .u64 0], 27, true, 1⟩)] ?_
          exact K1 (by omega)
      · have h7p : ¬ ((a % 2 = 0)) := by first | (simpa using h7) | (have h7q := h7; simp at h7q; omega) | (have h7q := bx2 h7; simp at h7q; omega)
        refine aw_p 237 (
          .a 2 4 <| .p (does_e true (((show (!(((Sp.dgt a 0) == 0) && (((Sp.dgt a 1) == 0) && (((Sp.dgt a 2) == 0) && (((Sp.dgt a 3) == 0) && (((Sp.dgt a 4) == 0) && (((Sp.dgt a 5) == 0) && (((Sp.dgt a 6) == 0) && true)))))))) = (decide (a ≠ 0)) from Sp.nz_dig (by omega) (by omega))).trans (h6))) <| .a 3 4 <|
          .p (does_e true (((show (!(((Sp.dgt b 0) == 0) && (((Sp.dgt b 1) == 0) && (((Sp.dgt b 2) == 0) && (((Sp.dgt b 3) == 0) && (((Sp.dgt b 4) == 0) && (((Sp.dgt b 5) == 0) && (((Sp.dgt b 6) == 0) && true)))))))) = (decide (b ≠ 0)) from Sp.nz_dig (by omega) (by omega))).trans ((show (decide (b ≠ 0)) = true from decide_eq_true (by omega))))) <|
          .a 4 4 <| .p (does_i ((Sp.dgt a 0) % 2) (Sp.umod (Sp.dgt_bd a 0).1) .u64) <| .p (does_b false ((Sp.par_dig0 _).trans (h7))) <| .a 7 4 <| .nil _ _) ?_
        refine aw_w [(2, .pointer (some ⟨1, 0, none⟩)), (3, .pointer (some ⟨2, 0, none⟩)), (4, .pointer (some ⟨3, 0, none⟩)), (5, .int .i64 ((t : Nat) : Int)), (25, .bool false)] [(1, ⟨(lds a), 27, true, 1⟩), (2, ⟨(lds b), 27, true, 1⟩), (3, ⟨[.int .u64 0, .int .u64 0, .int .u64 0, .int .u64 0, .int .u64 0, .int .u64 0, .int .u64 0], 27, true, 1⟩)] ?_
        exact K2 (by omega)
    · have h6p : ¬ ((a ≠ 0)) := by first | (simpa using h6) | (have h6q := h6; simp at h6q; omega) | (have h6q := bx2 h6; simp at h6q; omega)
      refine aw_p 237 (
        .a 2 4 <| .p (does_e false (((show (!(((Sp.dgt a 0) == 0) && (((Sp.dgt a 1) == 0) && (((Sp.dgt a 2) == 0) && (((Sp.dgt a 3) == 0) && (((Sp.dgt a 4) == 0) && (((Sp.dgt a 5) == 0) && (((Sp.dgt a 6) == 0) && true)))))))) = (decide (a ≠ 0)) from Sp.nz_dig (by omega) (by omega))).trans (h6))) <|
        .a 17 4 <| .nil _ _) ?_
      refine aw_w [(2, .pointer (some ⟨1, 0, none⟩)), (3, .pointer (some ⟨2, 0, none⟩)), (4, .pointer (some ⟨3, 0, none⟩)), (5, .int .i64 ((t : Nat) : Int)), (25, .bool false)] [(1, ⟨(lds a), 27, true, 1⟩), (2, ⟨(lds b), 27, true, 1⟩), (3, ⟨[.int .u64 0, .int .u64 0, .int .u64 0, .int .u64 0, .int .u64 0, .int .u64 0, .int .u64 0], 27, true, 1⟩)] ?_
      exact K2 (by omega)


end Go.Proofs.YtngmegnaohmapaaDoor.Am
