/-
  The walks of numbers of 224 bits, second part.
-/
import Derived.Test.YtjimiomokjfmiaaDoorProg
import Derived.Test.YtjimiomokjfmiaaDoorAm16
import Derived.Test.YtjimiomokjfmiaaDoorLn1
import Derived.Test.YtjimiomokjfmiaaDoorNc7
namespace Go.Proofs.YtjimiomokjfmiaaDoor.Am
open Go Go.Proofs
set_option maxRecDepth 100000
set_option maxHeartbeats 4000000
set_option linter.unusedVariables false
set_option linter.unusedSimpArgs false

theorem ltimes_ok (m n : Int) :
    AC Tryd.prog 22 0 ([lval m, lval n]) [] (lval (m * n)) [] := by
  refine ac_in Tryd.func22 (fun w0 W pin => ?_)
  refine aw_p 3 (
    .a 3 1 <| .nil _ _) ?_
  refine aw_p 7 (
    .a 1 4 <| .nil _ _) ?_
  refine aw_sq 14 15 ?_
  refine aw_p 29 (
    .a 1 5 <| .nil _ _) ?_
  refine aw_bl 0 59 ?_
  refine aw_lp 119 ?_
  refine al_w [(2, .pointer (some ⟨1, 0, none⟩)), (3, .pointer (some ⟨2, 0, none⟩)), (4, .pointer (some ⟨3, 0, none⟩)), (5, .pointer (some ⟨4, 0, none⟩)), (11, .int .i64 ((0 : Nat) : Int))] [(1, ⟨(lds m), 29, true, 1⟩), (2, ⟨(lds n), 29, true, 1⟩), (3, ⟨[.int .u64 0, .int .u64 0, .int .u64 0, .int .u64 0, .int .u64 0, .int .u64 0, .int .u64 0], 29, true, 1⟩), (4, ⟨(lds 0), 29, true, 1⟩)] ?_
  refine al_ind (fun i : Nat × Int => (fun (u : Nat) (o : Int) => mkSt 0 [(2, .pointer (some ⟨1, 0, none⟩)), (3, .pointer (some ⟨2, 0, none⟩)), (4, .pointer (some ⟨3, 0, none⟩)), (5, .pointer (some ⟨4, 0, none⟩)), (11, .int .i64 ((u : Nat) : Int))] [(1, ⟨(lds m), 29, true, 1⟩), (2, ⟨(lds n), 29, true, 1⟩), (3, ⟨[.int .u64 0, .int .u64 0, .int .u64 0, .int .u64 0, .int .u64 0, .int .u64 0, .int .u64 0], 29, true, 1⟩), (4, ⟨(lds o), 29, true, 1⟩)]) i.1 i.2) (fun i : Nat × Int => (fun (u : Nat) (o : Int) => (u ≤ 7) ∧ (∃ q, o = (m % 4294967296 ^ u) * n + 26959946667150639794667015087019630673637144422540572481103610249216 * q)) i.1 i.2) (fun i : Nat × Int => (fun (u : Nat) (o : Int) => 7 - u) i.1 i.2) (fun i hi1 ih1 => ?_) (0, 0) (show (0 ≤ 7) ∧ (∃ q, 0 = (m % 4294967296 ^ 0) * n + 26959946667150639794667015087019630673637144422540572481103610249216 * q) from ⟨by omega, by exact ⟨0, by simp [Int.emod_one]⟩⟩)
  obtain ⟨u, o⟩ := i
  have hi1' : (u ≤ 7) ∧ (∃ q, o = (m % 4294967296 ^ u) * n + 26959946667150639794667015087019630673637144422540572481103610249216 * q) := hi1
  obtain ⟨hu, ho⟩ := hi1'
  show AL _ _ _ (mkSt 0 [(2, .pointer (some ⟨1, 0, none⟩)), (3, .pointer (some ⟨2, 0, none⟩)), (4, .pointer (some ⟨3, 0, none⟩)), (5, .pointer (some ⟨4, 0, none⟩)), (11, .int .i64 ((u : Nat) : Int))] [(1, ⟨(lds m), 29, true, 1⟩), (2, ⟨(lds n), 29, true, 1⟩), (3, ⟨[.int .u64 0, .int .u64 0, .int .u64 0, .int .u64 0, .int .u64 0, .int .u64 0, .int .u64 0], 29, true, 1⟩), (4, ⟨(lds o), 29, true, 1⟩)]) _
  refine al_round ?_
  refine aw_p 239 (
    .a 1 5 <| .nil _ _) ?_
  refine aw_sq 478 479 ?_
  refine aw_cd 956 957 (decide (((u : Nat) : Int) < 7)) (fun h1 => ?_) (fun h1 => ?_)
  · have h1p : ((((u : Nat) : Int) < 7)) := by first | (simpa using h1) | (have h1q := h1; simp at h1q; omega) | (have h1q := bx1 h1; simp at h1q; omega)
    refine aw_sk ?_
    refine then_normal ?_
    refine aw_sq 958 959 ?_
    refine aw_bl 1 1917 ?_
    refine aw_p 3835 (
      .a 2 5 <| .nil _ _) ?_
    refine aw_p 7671 (
      .a 1 5 <| .nil _ _) ?_
    refine aw_sq 15342 15343 ?_
    refine aw_p 30685 (
      .a 1 6 <| .nil _ _) ?_
    refine aw_bl 2 61371 ?_
    refine aw_lp 122743 ?_
    refine al_w [(2, .pointer (some ⟨1, 0, none⟩)), (3, .pointer (some ⟨2, 0, none⟩)), (4, .pointer (some ⟨3, 0, none⟩)), (5, .pointer (some ⟨4, 0, none⟩)), (6, .int .i64 ((u : Nat) : Int)), (7, .pointer (some ⟨5, 0, none⟩)), (8, .int .i64 ((0 : Nat) : Int)), (11, .int .i64 ((u : Nat) : Int)), (12, .bool (decide (((u : Nat) : Int) < 7)))] [(1, ⟨(lds m), 29, true, 1⟩), (2, ⟨(lds n), 29, true, 1⟩), (3, ⟨[.int .u64 0, .int .u64 0, .int .u64 0, .int .u64 0, .int .u64 0, .int .u64 0, .int .u64 0], 29, true, 1⟩), (4, ⟨(lds o), 29, true, 1⟩), (5, ⟨(lds 0), 29, true, 1⟩)] ?_
    refine al_ind (fun i : Nat × Int => (fun (k : Nat) (r : Int) => mkSt 0 [(2, .pointer (some ⟨1, 0, none⟩)), (3, .pointer (some ⟨2, 0, none⟩)), (4, .pointer (some ⟨3, 0, none⟩)), (5, .pointer (some ⟨4, 0, none⟩)), (6, .int .i64 ((u : Nat) : Int)), (7, .pointer (some ⟨5, 0, none⟩)), (8, .int .i64 ((k : Nat) : Int)), (11, .int .i64 ((u : Nat) : Int)), (12, .bool (decide (((u : Nat) : Int) < 7)))] [(1, ⟨(lds m), 29, true, 1⟩), (2, ⟨(lds n), 29, true, 1⟩), (3, ⟨[.int .u64 0, .int .u64 0, .int .u64 0, .int .u64 0, .int .u64 0, .int .u64 0, .int .u64 0], 29, true, 1⟩), (4, ⟨(lds o), 29, true, 1⟩), (5, ⟨(lds r), 29, true, 1⟩)]) i.1 i.2) (fun i : Nat × Int => (fun (k : Nat) (r : Int) => (u + k ≤ 7) ∧ (∃ q, r = Sp.dgt m u * (n % 4294967296 ^ k) * 4294967296 ^ u + 26959946667150639794667015087019630673637144422540572481103610249216 * q)) i.1 i.2) (fun i : Nat × Int => (fun (k : Nat) (r : Int) => 7 - k) i.1 i.2) (fun i hi2 ih2 => ?_) (0, 0) (show (u + 0 ≤ 7) ∧ (∃ q, 0 = Sp.dgt m u * (n % 4294967296 ^ 0) * 4294967296 ^ u + 26959946667150639794667015087019630673637144422540572481103610249216 * q) from ⟨by omega, by exact Sp.row_first m n u⟩)
    obtain ⟨k, r⟩ := i
    have hi2' : (u + k ≤ 7) ∧ (∃ q, r = Sp.dgt m u * (n % 4294967296 ^ k) * 4294967296 ^ u + 26959946667150639794667015087019630673637144422540572481103610249216 * q) := hi2
    obtain ⟨hk, hr⟩ := hi2'
    show AL _ _ _ (mkSt 0 [(2, .pointer (some ⟨1, 0, none⟩)), (3, .pointer (some ⟨2, 0, none⟩)), (4, .pointer (some ⟨3, 0, none⟩)), (5, .pointer (some ⟨4, 0, none⟩)), (6, .int .i64 ((u : Nat) : Int)), (7, .pointer (some ⟨5, 0, none⟩)), (8, .int .i64 ((k : Nat) : Int)), (11, .int .i64 ((u : Nat) : Int)), (12, .bool (decide (((u : Nat) : Int) < 7)))] [(1, ⟨(lds m), 29, true, 1⟩), (2, ⟨(lds n), 29, true, 1⟩), (3, ⟨[.int .u64 0, .int .u64 0, .int .u64 0, .int .u64 0, .int .u64 0, .int .u64 0, .int .u64 0], 29, true, 1⟩), (4, ⟨(lds o), 29, true, 1⟩), (5, ⟨(lds r), 29, true, 1⟩)]) _
    refine al_round ?_
    refine aw_sq 245486 245487 ?_
    refine aw_p 490973 (
      .a 2 6 <| .p (does_i (((u : Nat) : Int) + ((k : Nat) : Int)) (wrap_i64 (by omega) (by omega)) .i64) <| .a 1 6 <| .nil _ _) ?_
    refine aw_cd 981946 981947 (decide ((((u : Nat) : Int) + ((k : Nat) : Int)) < 7)) (fun h2 => ?_) (fun h2 => ?_)
    · have h2p : (((((u : Nat) : Int) + ((k : Nat) : Int)) < 7)) := by first | (simpa using h2) | (have h2q := h2; simp at h2q; omega) | (have h2q := bx1 h2; simp at h2q; omega)
      refine aw_sk ?_
      refine then_normal ?_
      refine aw_sq 490974 490975 ?_
      refine aw_bl 3 981949 ?_
      refine aw_d 1963899 (
        .a 1 6 <| .p (does_indexArr (t := 29) (x := .tmp 2) (y := .tmp 20) (k := 1) (off := 0) (n := 7) (z := 1) (kd := .i64) (j := ((u : Nat) : Int)) (by kernel_rfl) (by kernel_rfl) (by kernel_rfl) (by kernel_rfl) (by kernel_rfl) (by omega) (by omega)) <|
        .p (does_load (t := 22) (x := .tmp 21) (k := 1) (off := (0 + (((u : Nat) : Int)).toNat * 1)) (b := ⟨(lds m), 29, true, 1⟩) (v := .int .u64 (Sp.dgt m u)) (by kernel_rfl) (by kernel_rfl) (by kernel_rfl) (ldV_lds (n := m) (j := u) (by kernel_rfl) (by kernel_rfl) (by omega) (by omega))) <| .a 1 6 <|
        .p (does_indexArr (t := 29) (x := .tmp 3) (y := .tmp 23) (k := 2) (off := 0) (n := 7) (z := 1) (kd := .i64) (j := ((k : Nat) : Int)) (by kernel_rfl) (by kernel_rfl) (by kernel_rfl) (by kernel_rfl) (by kernel_rfl) (by omega) (by omega)) <|
        .p (does_load (t := 22) (x := .tmp 24) (k := 2) (off := (0 + (((k : Nat) : Int)).toNat * 1)) (b := ⟨(lds n), 29, true, 1⟩) (v := .int .u64 (Sp.dgt n k)) (by kernel_rfl) (by kernel_rfl) (by kernel_rfl) (ldV_lds (n := n) (j := k) (by kernel_rfl) (by kernel_rfl) (by omega) (by omega))) <|
        .p (does_i ((Sp.dgt m u) * (Sp.dgt n k)) (wrap_u64 (Sp.mul_dg m n u k).1 (Sp.mul_dg m n u k).2) .u64) <| .a 1 6 <| .nil _ _) ?_
      refine aw_p 3927799 (
        .a 3 6 <| .nil _ _) ?_
      refine aw_w [(2, .pointer (some ⟨1, 0, none⟩)), (3, .pointer (some ⟨2, 0, none⟩)), (4, .pointer (some ⟨3, 0, none⟩)), (5, .pointer (some ⟨4, 0, none⟩)), (6, .int .i64 ((u : Nat) : Int)), (7, .pointer (some ⟨5, 0, none⟩)), (8, .int .i64 ((k : Nat) : Int)), (9, .int .u64 ((Sp.dgt m u) * (Sp.dgt n k))), (10, .pointer (some ⟨6, 0, none⟩)), (11, .int .i64 ((u : Nat) : Int)), (12, .bool (decide (((u : Nat) : Int) < 7))), (17, .bool (decide ((((u : Nat) : Int) + ((k : Nat) : Int)) < 7)))] [(1, ⟨(lds m), 29, true, 1⟩), (2, ⟨(lds n), 29, true, 1⟩), (3, ⟨[.int .u64 0, .int .u64 0, .int .u64 0, .int .u64 0, .int .u64 0, .int .u64 0, .int .u64 0], 29, true, 1⟩), (4, ⟨(lds o), 29, true, 1⟩), (5, ⟨(lds r), 29, true, 1⟩), (6, ⟨[.int .u64 0, .int .u64 0, .int .u64 0, .int .u64 0, .int .u64 0, .int .u64 0, .int .u64 0], 29, true, 1⟩)] ?_
      refine aw_p 7855599 (
        .a 2 7 <| .p (does_i (((u : Nat) : Int) + ((k : Nat) : Int)) (wrap_i64 (by omega) (by omega)) .i64) <| .a 1 7 <| .p (does_i (((Sp.dgt m u) * (Sp.dgt n k)) % 4294967296) (Sp.umod (Sp.mul_dg m n u k).1) .u64) <|
        .p (does_indexArr (t := 29) (x := .tmp 10) (y := .tmp 30) (k := 6) (off := 0) (n := 7) (z := 1) (kd := .i64) (j := (((u : Nat) : Int) + ((k : Nat) : Int))) (by kernel_rfl) (by kernel_rfl) (by kernel_rfl) (by kernel_rfl) (by kernel_rfl) (by omega) (by omega)) <|
        .p (does_store (t := 22) (x := .tmp 33) (y := .tmp 32) (k := 6) (off := (0 + ((((u : Nat) : Int) + ((k : Nat) : Int))).toNat * 1)) (b := ⟨[.int .u64 0, .int .u64 0, .int .u64 0, .int .u64 0, .int .u64 0, .int .u64 0, .int .u64 0], 29, true, 1⟩) (v := .int .u64 (((Sp.dgt m u) * (Sp.dgt n k)) % 4294967296)) (cells := (lds ((Sp.dgt m u * Sp.dgt n k % 4294967296) * 4294967296 ^ (u + k)))) (by kernel_rfl) (by kernel_rfl) (by kernel_rfl) (by kernel_rfl) rfl (by kernel_rfl) (by kernel_rfl) (Nat.ble_eq_true_of_le (by show _ + 1 ≤ 7; omega)) (setL_zero (j := u + k) (by omega) (by omega) (by omega) (by omega))) <| .nil _ _) ?_
      refine aw_sq 15711198 15711199 ?_
      refine aw_p 31422397 (
        .a 2 7 <| .p (does_i (((u : Nat) : Int) + ((k : Nat) : Int)) (wrap_i64 (by omega) (by omega)) .i64) <| .p (does_i ((((u : Nat) : Int) + ((k : Nat) : Int)) + 1) (wrap_i64 (by omega) (by omega)) .i64) <| .a 1 7 <| .nil _ _) ?_
      refine aw_cd 62844794 62844795 (decide (((((u : Nat) : Int) + ((k : Nat) : Int)) + 1) < 7)) (fun h3 => ?_) (fun h3 => ?_)
      · have h3p : ((((((u : Nat) : Int) + ((k : Nat) : Int)) + 1) < 7)) := by first | (simpa using h3) | (have h3q := h3; simp at h3q; omega) | (have h3q := bx1 h3; simp at h3q; omega)
        refine aw_p1 (
          .a 2 7 <| .p (does_i (((u : Nat) : Int) + ((k : Nat) : Int)) (wrap_i64 (by omega) (by omega)) .i64) <| .p (does_i ((((u : Nat) : Int) + ((k : Nat) : Int)) + 1) (wrap_i64 (by omega) (by omega)) .i64) <| .a 1 7 <| .p (does_i (((Sp.dgt m u) * (Sp.dgt n k)) / 4294967296) (Sp.ufd (by decide)) .u64) <|
          .p (does_indexArr (t := 29) (x := .tmp 10) (y := .tmp 42) (k := 6) (off := 0) (n := 7) (z := 1) (kd := .i64) (j := ((((u : Nat) : Int) + ((k : Nat) : Int)) + 1)) (by kernel_rfl) (by kernel_rfl) (by kernel_rfl) (by kernel_rfl) (by kernel_rfl) (by omega) (by omega)) <|
          .p (does_store (t := 22) (x := .tmp 45) (y := .tmp 44) (k := 6) (off := (0 + (((((u : Nat) : Int) + ((k : Nat) : Int)) + 1)).toNat * 1)) (b := ⟨(lds ((Sp.dgt m u * Sp.dgt n k % 4294967296) * 4294967296 ^ (u + k))), 29, true, 1⟩) (v := .int .u64 (((Sp.dgt m u) * (Sp.dgt n k)) / 4294967296)) (cells := (lds ((Sp.dgt m u * Sp.dgt n k) * 4294967296 ^ (u + k)))) (by kernel_rfl) (by kernel_rfl) (by kernel_rfl) (by kernel_rfl) rfl (by kernel_rfl) (by kernel_rfl) (Nat.ble_eq_true_of_le (by show _ + 1 ≤ 7; omega)) (setL_next (j := u + k) (by omega) (by omega) (Sp.mul_dg m n u k).1 (Sp.mul_dg m n u k).2)) <| .nil _ _) ?_
        refine then_normal ?_
        refine aw_p1 (
          .a 2 7 <| .p (does_c (lplus_ok r ((Sp.dgt m u * Sp.dgt n k) * 4294967296 ^ (u + k)))) <| .a 1 7 <| .nil _ _) ?_
        refine block_normal ?_
        refine then_normal ?_
        refine aw_p1 (
          .a 1 7 <| .p (does_i (((k : Nat) : Int) + 1) (wrap_i64 (by omega) (by omega)) .i64) <| .a 1 7 <| .nil _ _) ?_
        refine then_normal ?_
        refine al_w [(2, .pointer (some ⟨1, 0, none⟩)), (3, .pointer (some ⟨2, 0, none⟩)), (4, .pointer (some ⟨3, 0, none⟩)), (5, .pointer (some ⟨4, 0, none⟩)), (6, .int .i64 ((u : Nat) : Int)), (7, .pointer (some ⟨5, 0, none⟩)), (8, .int .i64 (((k + 1) : Nat) : Int)), (11, .int .i64 ((u : Nat) : Int)), (12, .bool (decide (((u : Nat) : Int) < 7)))] [(1, ⟨(lds m), 29, true, 1⟩), (2, ⟨(lds n), 29, true, 1⟩), (3, ⟨[.int .u64 0, .int .u64 0, .int .u64 0, .int .u64 0, .int .u64 0, .int .u64 0, .int .u64 0], 29, true, 1⟩), (4, ⟨(lds o), 29, true, 1⟩), (5, ⟨(lds (r + ((Sp.dgt m u * Sp.dgt n k) * 4294967296 ^ (u + k)))), 29, true, 1⟩)] ?_
        exact ih2 ((k + 1), (r + ((Sp.dgt m u * Sp.dgt n k) * 4294967296 ^ (u + k)))) (show (u + (k + 1) ≤ 7) ∧ (∃ q, (r + ((Sp.dgt m u * Sp.dgt n k) * 4294967296 ^ (u + k))) = Sp.dgt m u * (n % 4294967296 ^ (k + 1)) * 4294967296 ^ u + 26959946667150639794667015087019630673637144422540572481103610249216 * q) from ⟨by omega, by (first | exact Sp.row_next hr | exact Sp.row_last (by omega) hr)⟩) (show 7 - (k + 1) < 7 - k from by omega)
      · have h3p : ¬ ((((((u : Nat) : Int) + ((k : Nat) : Int)) + 1) < 7)) := by first | (simpa using h3) | (have h3q := h3; simp at h3q; omega) | (have h3q := bx2 h3; simp at h3q; omega)
        refine aw_sk ?_
        refine then_normal ?_
        refine aw_p1 (
          .a 2 7 <| .p (does_c (lplus_ok r ((Sp.dgt m u * Sp.dgt n k % 4294967296) * 4294967296 ^ (u + k)))) <| .a 1 7 <| .nil _ _) ?_
        refine block_normal ?_
        refine then_normal ?_
        refine aw_p1 (
          .a 1 7 <| .p (does_i (((k : Nat) : Int) + 1) (wrap_i64 (by omega) (by omega)) .i64) <| .a 1 7 <| .nil _ _) ?_
        refine then_normal ?_
        refine al_w [(2, .pointer (some ⟨1, 0, none⟩)), (3, .pointer (some ⟨2, 0, none⟩)), (4, .pointer (some ⟨3, 0, none⟩)), (5, .pointer (some ⟨4, 0, none⟩)), (6, .int .i64 ((u : Nat) : Int)), (7, .pointer (some ⟨5, 0, none⟩)), (8, .int .i64 (((k + 1) : Nat) : Int)), (11, .int .i64 ((u : Nat) : Int)), (12, .bool (decide (((u : Nat) : Int) < 7)))] [(1, ⟨(lds m), 29, true, 1⟩), (2, ⟨(lds n), 29, true, 1⟩), (3, ⟨[.int .u64 0, .int .u64 0, .int .u64 0, .int .u64 0, .int .u64 0, .int .u64 0, .int .u64 0], 29, true, 1⟩), (4, ⟨(lds o), 29, true, 1⟩), (5, ⟨(lds (r + ((Sp.dgt m u * Sp.dgt n k % 4294967296) * 4294967296 ^ (u + k)))), 29, true, 1⟩)] ?_
        exact ih2 ((k + 1), (r + ((Sp.dgt m u * Sp.dgt n k % 4294967296) * 4294967296 ^ (u + k)))) (show (u + (k + 1) ≤ 7) ∧ (∃ q, (r + ((Sp.dgt m u * Sp.dgt n k % 4294967296) * 4294967296 ^ (u + k))) = Sp.dgt m u * (n % 4294967296 ^ (k + 1)) * 4294967296 ^ u + 26959946667150639794667015087019630673637144422540572481103610249216 * q) from ⟨by omega, by (first | exact Sp.row_next hr | exact Sp.row_last (by omega) hr)⟩) (show 7 - (k + 1) < 7 - k from by omega)
    · have h2p : ¬ (((((u : Nat) : Int) + ((k : Nat) : Int)) < 7)) := by first | (simpa using h2) | (have h2q := h2; simp at h2q; omega) | (have h2q := bx2 h2; simp at h2q; omega)
      refine aw_ex 2 ?_
      refine then_exit ?_
      refine then_exit ?_
      refine block_exit ?_
      refine then_normal ?_
      refine aw_p1 (
        .a 2 6 <| .p (does_c (lplus_ok o r)) <| .a 1 6 <| .nil _ _) ?_
      refine block_normal ?_
      refine then_normal ?_
      refine aw_p1 (
        .p (does_i (((u : Nat) : Int) + 1) (wrap_i64 (by omega) (by omega)) .i64) <| .a 1 6 <| .nil _ _) ?_
      refine then_normal ?_
      refine al_w [(2, .pointer (some ⟨1, 0, none⟩)), (3, .pointer (some ⟨2, 0, none⟩)), (4, .pointer (some ⟨3, 0, none⟩)), (5, .pointer (some ⟨4, 0, none⟩)), (11, .int .i64 (((u + 1) : Nat) : Int))] [(1, ⟨(lds m), 29, true, 1⟩), (2, ⟨(lds n), 29, true, 1⟩), (3, ⟨[.int .u64 0, .int .u64 0, .int .u64 0, .int .u64 0, .int .u64 0, .int .u64 0, .int .u64 0], 29, true, 1⟩), (4, ⟨(lds (o + r)), 29, true, 1⟩)] ?_
      exact ih1 ((u + 1), (o + r)) (show ((u + 1) ≤ 7) ∧ (∃ q, (o + r) = (m % 4294967296 ^ (u + 1)) * n + 26959946667150639794667015087019630673637144422540572481103610249216 * q) from ⟨by omega, by exact Sp.out_next (k := k) (by omega) ho hr⟩) (show 7 - (u + 1) < 7 - u from by omega)
  · have h1p : ¬ ((((u : Nat) : Int) < 7)) := by first | (simpa using h1) | (have h1q := h1; simp at h1q; omega) | (have h1q := bx2 h1; simp at h1q; omega)
    refine aw_ex 0 ?_
    refine then_exit ?_
    refine then_exit ?_
    refine block_exit ?_
    refine then_normal ?_
    refine aw_p 31 (
      .a 2 5 <| .nil _ _) ?_
    refine aw_rt ?_
    exact en_ret [lval o] (show (lval o : Value) = (lval (m * n)) from (congrArg (fun z : List Value => Value.agg z.toArray) (lcons (congrArg (Value.int .u64) (show (Sp.dgt o 0) = (Sp.dgt (m * n) 0) from by (exact Sp.dgt_congr (Sp.out_last (by have e : u = 7 := (by omega); subst e; exact ho)) (by decide)))) (lcons (congrArg (Value.int .u64) (show (Sp.dgt o 1) = (Sp.dgt (m * n) 1) from by (exact Sp.dgt_congr (Sp.out_last (by have e : u = 7 := (by omega); subst e; exact ho)) (by decide)))) (lcons (congrArg (Value.int .u64) (show (Sp.dgt o 2) = (Sp.dgt (m * n) 2) from by (exact Sp.dgt_congr (Sp.out_last (by have e : u = 7 := (by omega); subst e; exact ho)) (by decide)))) (lcons (congrArg (Value.int .u64) (show (Sp.dgt o 3) = (Sp.dgt (m * n) 3) from by (exact Sp.dgt_congr (Sp.out_last (by have e : u = 7 := (by omega); subst e; exact ho)) (by decide)))) (lcons (congrArg (Value.int .u64) (show (Sp.dgt o 4) = (Sp.dgt (m * n) 4) from by (exact Sp.dgt_congr (Sp.out_last (by have e : u = 7 := (by omega); subst e; exact ho)) (by decide)))) (lcons (congrArg (Value.int .u64) (show (Sp.dgt o 5) = (Sp.dgt (m * n) 5) from by (exact Sp.dgt_congr (Sp.out_last (by have e : u = 7 := (by omega); subst e; exact ho)) (by decide)))) (lcons (congrArg (Value.int .u64) (show (Sp.dgt o 6) = (Sp.dgt (m * n) 6) from by (exact Sp.dgt_congr (Sp.out_last (by have e : u = 7 := (by omega); subst e; exact ho)) (by decide)))) rfl)))))))))


end Go.Proofs.YtjimiomokjfmiaaDoor.Am
