/-
  The walks of the curve.
-/
import Derived.Test.YtndkhgfecnbmnaaProg
import Derived.Test.YtndkhgfecnbmnaaAm16
import Derived.Test.YtndkhgfecnbmnaaSp6
import Derived.Test.YtndkhgfecnbmnaaPt1
namespace Go.Proofs.Ytndkhgfecnbmnaa.Am
open Go Go.Proofs
set_option maxRecDepth 100000
set_option maxHeartbeats 4000000
set_option linter.unusedVariables false
set_option linter.unusedSimpArgs false

theorem xor_dg {r u : Int} (hr : r = 0 ∨ r = 1) (hu : u = 0 ∨ u = 1) : IntKind.wrap .i64 ((BitVec.ofInt 64 (3 * r) ^^^ BitVec.ofInt 64 u).toNat : Int) = Sp.dg r u := by
  rcases hr with rfl | rfl <;> rcases hu with rfl | rfl <;> decide
theorem IntKind_tdiv2 (s : Int) (h0 : 0 ≤ s) (hb : s ≤ 9223372036854775807) : IntKind.wrap .i64 (Int.tdiv s 2) = s / 2 := wquo h0 hb (by decide)
theorem turned_ok (x y s r u : Int) (hx : 0 ≤ x ∧ x < s) (hy : 0 ≤ y ∧ y < s) (hs : s ≤ 4611686018427387904) :
    AC Try.prog 91 0 ([.int .i64 x, .int .i64 y, .int .i64 s, .int .i64 r, .int .i64 u]) [] (.tuple #[.int .i64 (Sp.tx x y s r u), .int .i64 (Sp.ty x y s r u)]) [] := by
  refine ac_in Try.func91 (fun w0 W pin => ?_)
  refine aw_p 3 (
    .a 2 1 <| .nil _ _) ?_
  refine aw_sq 6 7 ?_
  refine aw_p 13 (
    .a 2 1 <| .nil _ _) ?_
  refine aw_cd 26 27 (u == 1) (fun h1 => ?_) (fun h1 => ?_)
  · have h1p : ((u = 1)) := by first | (simpa using h1) | (have h1q := h1; simp at h1q; omega) | (have h1q := bx1 h1; simp at h1q; omega)
    refine aw_p 53 (
      .a 4 1 <| .nil _ _) ?_
    refine aw_rt ?_
    refine then_ret ?_
    exact en_ret [.int .i64 x, .int .i64 y] (show (.tuple #[.int .i64 x, .int .i64 y] : Value) = (.tuple #[.int .i64 (Sp.tx x y s r u), .int .i64 (Sp.ty x y s r u)]) from (congrArg (fun z : List Value => Value.tuple z.toArray) (lcons (congrArg (Value.int .i64) (show x = (Sp.tx x y s r u) from by (simp only [Sp.tx, Sp.ty]; (repeat' split) <;> omega))) (lcons (congrArg (Value.int .i64) (show y = (Sp.ty x y s r u) from by (simp only [Sp.tx, Sp.ty]; (repeat' split) <;> omega))) rfl))))
  · have h1p : ¬ ((u = 1)) := by first | (simpa using h1) | (have h1q := h1; simp at h1q; omega) | (have h1q := bx2 h1; simp at h1q; omega)
    refine aw_sk ?_
    refine then_normal ?_
    refine aw_sq 14 15 ?_
    refine aw_p 29 (
      .a 2 1 <| .nil _ _) ?_
    refine aw_cd 58 59 (r == 1) (fun h2 => ?_) (fun h2 => ?_)
    · have h2p : ((r = 1)) := by first | (simpa using h2) | (have h2q := h2; simp at h2q; omega) | (have h2q := bx1 h2; simp at h2q; omega)
      refine aw_p1 (
        .a 1 1 <| .p (does_i (s - 1) (wrap_i64 (by omega) (by omega)) .i64) <| .a 1 1 <| .p (does_i ((s - 1) - x) (wrap_i64 (by omega) (by omega)) .i64) <| .a 1 1 <| .p (does_i (s - 1) (wrap_i64 (by omega) (by omega)) .i64) <| .a 1 1 <| .p (does_i ((s - 1) - y) (wrap_i64 (by omega) (by omega)) .i64) <|
        .a 2 1 <| .nil _ _) ?_
      refine then_normal ?_
      refine aw_p 31 (
        .a 4 1 <| .nil _ _) ?_
      refine aw_rt ?_
      exact en_ret [.int .i64 ((s - 1) - y), .int .i64 ((s - 1) - x)] (show (.tuple #[.int .i64 ((s - 1) - y), .int .i64 ((s - 1) - x)] : Value) = (.tuple #[.int .i64 (Sp.tx x y s r u), .int .i64 (Sp.ty x y s r u)]) from (congrArg (fun z : List Value => Value.tuple z.toArray) (lcons (congrArg (Value.int .i64) (show ((s - 1) - y) = (Sp.tx x y s r u) from by (simp only [Sp.tx, Sp.ty]; (repeat' split) <;> omega))) (lcons (congrArg (Value.int .i64) (show ((s - 1) - x) = (Sp.ty x y s r u) from by (simp only [Sp.tx, Sp.ty]; (repeat' split) <;> omega))) rfl))))
    · have h2p : ¬ ((r = 1)) := by first | (simpa using h2) | (have h2q := h2; simp at h2q; omega) | (have h2q := bx2 h2; simp at h2q; omega)
      refine aw_sk ?_
      refine then_normal ?_
      refine aw_p 31 (
        .a 4 1 <| .nil _ _) ?_
      refine aw_rt ?_
      exact en_ret [.int .i64 y, .int .i64 x] (show (.tuple #[.int .i64 y, .int .i64 x] : Value) = (.tuple #[.int .i64 (Sp.tx x y s r u), .int .i64 (Sp.ty x y s r u)]) from (congrArg (fun z : List Value => Value.tuple z.toArray) (lcons (congrArg (Value.int .i64) (show y = (Sp.tx x y s r u) from by (simp only [Sp.tx, Sp.ty]; (repeat' split) <;> omega))) (lcons (congrArg (Value.int .i64) (show x = (Sp.ty x y s r u) from by (simp only [Sp.tx, Sp.ty]; (repeat' split) <;> omega))) rfl))))

theorem cindex_ok (ax ay : Int) :
    AC Try.prog 43 0 ([.agg #[.int .i64 ax, .int .i64 ay]]) [] (.int .i64 (Sp.index ax ay)) [] := by
  have q1 := Sp.lim_bd (m := 1048576) (by decide) ax; have q2 := Sp.lim_bd (m := 1048576) (by decide) ay; have e22 : Sp.pw 22 = 4194304 := (by decide); obtain ⟨N, hN, b22⟩ : ∃ N, N = Sp.index ax ay ∧ 0 ≤ N ∧ N < 17592186044416 := ⟨_, rfl, Sp.index_bd ax ay⟩
  refine ac_in Try.func43 (fun w0 W pin => ?_)
  refine aw_p 3 (
    .a 2 1 <| .nil _ _) ?_
  refine aw_p 7 (
    .a 1 2 <| .p (does_c (clamp_ok ax ay)) <| .a 1 2 <| .nil _ _) ?_
  refine aw_d 15 (
    .a 2 2 <| .p (does_i ((Sp.lim 1048576 ax) + 1048576) (wrap_i64 (by omega) (by omega)) .i64) <| .a 2 2 <| .p (does_i ((Sp.lim 1048576 ay) + 1048576) (wrap_i64 (by omega) (by omega)) .i64) <| .a 2 2 <| .nil _ _) ?_
  refine aw_p 31 (
    .a 1 2 <| .nil _ _) ?_
  refine aw_sq 62 63 ?_
  refine aw_p 125 (
    .a 1 2 <| .nil _ _) ?_
  refine aw_bl 0 251 ?_
  refine aw_lp 503 ?_
  refine al_w [(0, .agg #[.int .i64 ax, .int .i64 ay]), (1, .pointer (some ⟨1, 0, none⟩)), (2, .int .i64 0), (3, .int .i64 (Sp.lim 1048576 ax + 1048576)), (4, .int .i64 (Sp.lim 1048576 ay + 1048576)), (5, .int .i64 0), (6, .int .i64 (Sp.sd 22)), (9, .agg #[.int .i64 ax, .int .i64 ay]), (10, .agg #[.int .i64 (Sp.lim 1048576 ax), .int .i64 (Sp.lim 1048576 ay)]), (11, .pointer (some ⟨1, 0, none⟩)), (12, .int .i64 (Sp.lim 1048576 ax)), (13, .int .i64 ((Sp.lim 1048576 ax) + 1048576)), (14, .pointer (some ⟨1, 1, none⟩)), (15, .int .i64 (Sp.lim 1048576 ay)), (16, .int .i64 ((Sp.lim 1048576 ay) + 1048576))] [(1, ⟨[.int .i64 (Sp.lim 1048576 ax), .int .i64 (Sp.lim 1048576 ay)], 28, true, 2⟩)] ?_
  refine al_ind (fun i : Nat × Int × Int × Int => (fun (j : Nat) (x : Int) (y : Int) (n : Int) => mkSt 0 [(0, .agg #[.int .i64 ax, .int .i64 ay]), (1, .pointer (some ⟨1, 0, none⟩)), (2, .int .i64 0), (3, .int .i64 x), (4, .int .i64 y), (5, .int .i64 n), (6, .int .i64 (Sp.sd j)), (9, .agg #[.int .i64 ax, .int .i64 ay]), (10, .agg #[.int .i64 (Sp.lim 1048576 ax), .int .i64 (Sp.lim 1048576 ay)]), (11, .pointer (some ⟨1, 0, none⟩)), (12, .int .i64 (Sp.lim 1048576 ax)), (13, .int .i64 ((Sp.lim 1048576 ax) + 1048576)), (14, .pointer (some ⟨1, 1, none⟩)), (15, .int .i64 (Sp.lim 1048576 ay)), (16, .int .i64 ((Sp.lim 1048576 ay) + 1048576))] [(1, ⟨[.int .i64 (Sp.lim 1048576 ax), .int .i64 (Sp.lim 1048576 ay)], 28, true, 2⟩)]) i.1 i.2.1 i.2.2.1 i.2.2.2) (fun i : Nat × Int × Int × Int => (fun (j : Nat) (x : Int) (y : Int) (n : Int) => (j ≤ 22) ∧ (0 ≤ x ∧ x < Sp.pw j) ∧ (0 ≤ y ∧ y < Sp.pw j) ∧ (0 ≤ n) ∧ (n + Sp.idx j x y = N)) i.1 i.2.1 i.2.2.1 i.2.2.2) (fun i : Nat × Int × Int × Int => (fun (j : Nat) (x : Int) (y : Int) (n : Int) => j) i.1 i.2.1 i.2.2.1 i.2.2.2) (fun i hi1 ih1 => ?_) (22, (Sp.lim 1048576 ax + 1048576), (Sp.lim 1048576 ay + 1048576), 0) (show (22 ≤ 22) ∧ (0 ≤ (Sp.lim 1048576 ax + 1048576) ∧ (Sp.lim 1048576 ax + 1048576) < Sp.pw 22) ∧ (0 ≤ (Sp.lim 1048576 ay + 1048576) ∧ (Sp.lim 1048576 ay + 1048576) < Sp.pw 22) ∧ (0 ≤ 0) ∧ (0 + Sp.idx 22 (Sp.lim 1048576 ax + 1048576) (Sp.lim 1048576 ay + 1048576) = N) from ⟨by omega, by rw [e22]; omega, by rw [e22]; omega, by omega, by rw [Int.zero_add]; exact hN.symm⟩)
  obtain ⟨j, x, y, n⟩ := i
  have hi1' : (j ≤ 22) ∧ (0 ≤ x ∧ x < Sp.pw j) ∧ (0 ≤ y ∧ y < Sp.pw j) ∧ (0 ≤ n) ∧ (n + Sp.idx j x y = N) := hi1
  obtain ⟨hj, hx, hy, hn, he⟩ := hi1'
  show AL _ _ _ (mkSt 0 [(0, .agg #[.int .i64 ax, .int .i64 ay]), (1, .pointer (some ⟨1, 0, none⟩)), (2, .int .i64 0), (3, .int .i64 x), (4, .int .i64 y), (5, .int .i64 n), (6, .int .i64 (Sp.sd j)), (9, .agg #[.int .i64 ax, .int .i64 ay]), (10, .agg #[.int .i64 (Sp.lim 1048576 ax), .int .i64 (Sp.lim 1048576 ay)]), (11, .pointer (some ⟨1, 0, none⟩)), (12, .int .i64 (Sp.lim 1048576 ax)), (13, .int .i64 ((Sp.lim 1048576 ax) + 1048576)), (14, .pointer (some ⟨1, 1, none⟩)), (15, .int .i64 (Sp.lim 1048576 ay)), (16, .int .i64 ((Sp.lim 1048576 ay) + 1048576))] [(1, ⟨[.int .i64 (Sp.lim 1048576 ax), .int .i64 (Sp.lim 1048576 ay)], 28, true, 2⟩)]) _
  refine al_round ?_
  refine aw_sq 1006 1007 ?_
  refine aw_p 2013 (
    .a 2 2 <| .nil _ _) ?_
  refine aw_cd 4026 4027 (decide ((Sp.sd j) > 0)) (fun h1 => ?_) (fun h1 => ?_)
  · have h1p : (((Sp.sd j) > 0)) := by first | (simpa using h1) | (have h1q := h1; simp at h1q; omega) | (have h1q := bx1 h1; simp at h1q; omega)
    obtain ⟨i, hi, hs⟩ := Sp.sd_pos h1p
    have hx0 := hx; have hy0 := hy; have he0 := he; rw [hi] at hx0 hy0 he0
    obtain ⟨k1, k2, k3, k4, k5, k6, k7, k8, k9, k10, k11, k12⟩ := Sp.idx_round (i := i) (x := x) (y := y) (by omega) hx0 hy0
    refine aw_sk ?_
    refine then_normal ?_
    refine aw_sq 2014 2015 ?_
    refine aw_bl 1 4029 ?_
    refine aw_d 8059 (
      .a 2 2 <|
      .p (does_int (n' := x / Sp.pw i) (does_quo (t := 3) (t2 := 3) (x := .tmp 21) (y := .tmp 22) (k := .i64) (a := x) (b := (Sp.sd j)) (by kernel_rfl) (by kernel_rfl) (by kernel_rfl) (by omega)) ((show (IntKind.wrap .i64 (Int.tdiv x (Sp.sd j))) = (x / Sp.pw i) from by rw [hs]; exact wquo (by omega) (by omega) (by omega)))) <|
      .a 2 2 <|
      .p (does_int (n' := y / Sp.pw i) (does_quo (t := 3) (t2 := 3) (x := .tmp 24) (y := .tmp 25) (k := .i64) (a := y) (b := (Sp.sd j)) (by kernel_rfl) (by kernel_rfl) (by kernel_rfl) (by omega)) ((show (IntKind.wrap .i64 (Int.tdiv y (Sp.sd j))) = (y / Sp.pw i) from by rw [hs]; exact wquo (by omega) (by omega) (by omega)))) <|
      .a 2 2 <| .nil _ _) ?_
    refine aw_w [(0, .agg #[.int .i64 ax, .int .i64 ay]), (1, .pointer (some ⟨1, 0, none⟩)), (2, .int .i64 0), (3, .int .i64 x), (4, .int .i64 y), (5, .int .i64 n), (6, .int .i64 (Sp.sd j)), (7, .int .i64 (x / Sp.pw i)), (8, .int .i64 (y / Sp.pw i)), (9, .agg #[.int .i64 ax, .int .i64 ay]), (10, .agg #[.int .i64 (Sp.lim 1048576 ax), .int .i64 (Sp.lim 1048576 ay)]), (11, .pointer (some ⟨1, 0, none⟩)), (12, .int .i64 (Sp.lim 1048576 ax)), (13, .int .i64 ((Sp.lim 1048576 ax) + 1048576)), (14, .pointer (some ⟨1, 1, none⟩)), (15, .int .i64 (Sp.lim 1048576 ay)), (16, .int .i64 ((Sp.lim 1048576 ay) + 1048576)), (17, .int .i64 (Sp.sd j)), (18, .bool (decide ((Sp.sd j) > 0))), (21, .int .i64 x), (22, .int .i64 (Sp.sd j)), (23, .int .i64 (x / Sp.pw i)), (24, .int .i64 y), (25, .int .i64 (Sp.sd j)), (26, .int .i64 (y / Sp.pw i))] [(1, ⟨[.int .i64 (Sp.lim 1048576 ax), .int .i64 (Sp.lim 1048576 ay)], 28, true, 2⟩)] ?_
    refine aw_p 16119 (
      .a 3 2 <| .p (does_i (Sp.pw i * Sp.pw i) ((show (IntKind.wrap .i64 ((Sp.sd j) * (Sp.sd j))) = (Sp.pw i * Sp.pw i) from by rw [hs]; exact wrap_i64 (by omega) (by omega))) .i64) <| .a 1 2 <| .p (does_i (3 * (x / Sp.pw i)) (wrap_i64 (by omega) (by omega)) .i64) <| .a 1 2 <|
      .p (does_i (Sp.dg (x / Sp.pw i) (y / Sp.pw i)) (xor_dg k1 k2) .i64) <| .p (does_i ((Sp.pw i * Sp.pw i) * (Sp.dg (x / Sp.pw i) (y / Sp.pw i))) (wrap_i64 (by omega) (by omega)) .i64) <|
      .p (does_i (n + ((Sp.pw i * Sp.pw i) * (Sp.dg (x / Sp.pw i) (y / Sp.pw i)))) (wrap_i64 (by omega) (by omega)) .i64) <| .a 1 2 <| .nil _ _) ?_
    refine aw_d1 (
      .a 2 2 <| .p (does_int (n' := x % Sp.pw i) (does_rem (t := 3) (t2 := 3) (x := .tmp 38) (y := .tmp 39) (k := .i64) (a := x) (b := (Sp.sd j)) (by kernel_rfl) (by kernel_rfl) (by kernel_rfl) (by omega)) ((show (Int.tmod x (Sp.sd j)) = (x % Sp.pw i) from by rw [hs]; exact wrem (by omega)))) <| .a 2 2 <|
      .p (does_int (n' := y % Sp.pw i) (does_rem (t := 3) (t2 := 3) (x := .tmp 41) (y := .tmp 42) (k := .i64) (a := y) (b := (Sp.sd j)) (by kernel_rfl) (by kernel_rfl) (by kernel_rfl) (by omega)) ((show (Int.tmod y (Sp.sd j)) = (y % Sp.pw i) from by rw [hs]; exact wrem (by omega)))) <|
      .p (does_i (Sp.pw i) (hs) .i64) <| .a 2 2 <| .p (does_c (turned_ok (x % Sp.pw i) (y % Sp.pw i) (Sp.pw i) (x / Sp.pw i) (y / Sp.pw i) (by omega) (by omega) (by omega))) <| .a 5 2 <| .nil _ _) ?_
    refine block_normal ?_
    refine then_normal ?_
    refine aw_p1 (
      .a 1 2 <| .p (does_i (Sp.sd i) ((show (IntKind.wrap .i64 (Int.tdiv (Sp.sd j) 2)) = (Sp.sd i) from by rw [hs, IntKind_tdiv2 _ (by omega) (by omega)]; exact Sp.sd_half i)) .i64) <| .a 1 2 <| .nil _ _) ?_
    refine then_normal ?_
    refine al_w [(0, .agg #[.int .i64 ax, .int .i64 ay]), (1, .pointer (some ⟨1, 0, none⟩)), (2, .int .i64 0), (3, .int .i64 (Sp.tx (x % Sp.pw i) (y % Sp.pw i) (Sp.pw i) (x / Sp.pw i) (y / Sp.pw i))), (4, .int .i64 (Sp.ty (x % Sp.pw i) (y % Sp.pw i) (Sp.pw i) (x / Sp.pw i) (y / Sp.pw i))), (5, .int .i64 (n + ((Sp.pw i * Sp.pw i) * (Sp.dg (x / Sp.pw i) (y / Sp.pw i))))), (6, .int .i64 (Sp.sd i)), (9, .agg #[.int .i64 ax, .int .i64 ay]), (10, .agg #[.int .i64 (Sp.lim 1048576 ax), .int .i64 (Sp.lim 1048576 ay)]), (11, .pointer (some ⟨1, 0, none⟩)), (12, .int .i64 (Sp.lim 1048576 ax)), (13, .int .i64 ((Sp.lim 1048576 ax) + 1048576)), (14, .pointer (some ⟨1, 1, none⟩)), (15, .int .i64 (Sp.lim 1048576 ay)), (16, .int .i64 ((Sp.lim 1048576 ay) + 1048576))] [(1, ⟨[.int .i64 (Sp.lim 1048576 ax), .int .i64 (Sp.lim 1048576 ay)], 28, true, 2⟩)] ?_
    exact ih1 (i, (Sp.tx (x % Sp.pw i) (y % Sp.pw i) (Sp.pw i) (x / Sp.pw i) (y / Sp.pw i)), (Sp.ty (x % Sp.pw i) (y % Sp.pw i) (Sp.pw i) (x / Sp.pw i) (y / Sp.pw i)), (n + ((Sp.pw i * Sp.pw i) * (Sp.dg (x / Sp.pw i) (y / Sp.pw i))))) (show (i ≤ 22) ∧ (0 ≤ (Sp.tx (x % Sp.pw i) (y % Sp.pw i) (Sp.pw i) (x / Sp.pw i) (y / Sp.pw i)) ∧ (Sp.tx (x % Sp.pw i) (y % Sp.pw i) (Sp.pw i) (x / Sp.pw i) (y / Sp.pw i)) < Sp.pw i) ∧ (0 ≤ (Sp.ty (x % Sp.pw i) (y % Sp.pw i) (Sp.pw i) (x / Sp.pw i) (y / Sp.pw i)) ∧ (Sp.ty (x % Sp.pw i) (y % Sp.pw i) (Sp.pw i) (x / Sp.pw i) (y / Sp.pw i)) < Sp.pw i) ∧ (0 ≤ (n + ((Sp.pw i * Sp.pw i) * (Sp.dg (x / Sp.pw i) (y / Sp.pw i))))) ∧ ((n + ((Sp.pw i * Sp.pw i) * (Sp.dg (x / Sp.pw i) (y / Sp.pw i)))) + Sp.idx i (Sp.tx (x % Sp.pw i) (y % Sp.pw i) (Sp.pw i) (x / Sp.pw i) (y / Sp.pw i)) (Sp.ty (x % Sp.pw i) (y % Sp.pw i) (Sp.pw i) (x / Sp.pw i) (y / Sp.pw i)) = N) from ⟨by omega, by omega, by omega, by omega, by omega⟩) (show i < j from by omega)
  · have h1p : ¬ (((Sp.sd j) > 0)) := by first | (simpa using h1) | (have h1q := h1; simp at h1q; omega) | (have h1q := bx2 h1; simp at h1q; omega)
    refine aw_ex 0 ?_
    refine then_exit ?_
    refine then_exit ?_
    refine block_exit ?_
    refine then_normal ?_
    refine aw_p 127 (
      .a 2 2 <| .nil _ _) ?_
    refine aw_rt ?_
    exact en_ret [.int .i64 n] (show (.int .i64 n : Value) = (.int .i64 (Sp.index ax ay)) from (congrArg (Value.int .i64) (show n = (Sp.index ax ay) from by (have j0 := Sp.sd_zero (by assumption); subst j0; simp only [Sp.idx] at he; rw [← hN]; omega))))

theorem cof_ok (n : Int) :
    AC Try.prog 45 0 ([.int .i64 n]) [] (.tuple #[.agg #[.int .i64 (Sp.ofx n), .int .i64 (Sp.ofy n)], .int .i64 (Sp.ofe n)]) [] := by
  refine ac_in Try.func45 (fun w0 W pin => ?_)
  refine aw_p 3 (
    .a 2 1 <| .nil _ _) ?_
  refine aw_sq 6 7 ?_
  rcases Bool.eq_false_or_eq_true (decide (n < 0)) with h1 | h1
  · have h1p : ((n < 0)) := by first | (simpa using h1) | (have h1q := h1; simp at h1q; omega) | (have h1q := bx1 h1; simp at h1q; omega)
    have hofe : Sp.ofe n = 1 := by unfold Sp.ofe; rw [if_pos (by omega)]
    refine aw_p 13 (
      .a 1 2 <| .p (does_b true (h1)) <| .a 4 2 <| .nil _ _) ?_
    refine aw_tr 26 ?_
    refine aw_p 53 (
      .a 3 2 <| .nil _ _) ?_
    refine aw_rt ?_
    refine then_ret ?_
    exact en_ret [.agg #[.int .i64 0, .int .i64 0], .int .i64 1] (show (.tuple #[.agg #[.int .i64 0, .int .i64 0], .int .i64 1] : Value) = (.tuple #[.agg #[.int .i64 (Sp.ofx n), .int .i64 (Sp.ofy n)], .int .i64 (Sp.ofe n)]) from (congrArg (fun z : List Value => Value.tuple z.toArray) (lcons (congrArg (fun z : List Value => Value.agg z.toArray) (lcons (congrArg (Value.int .i64) (show 0 = (Sp.ofx n) from by (have hz := hofe; first | (simp only [Sp.ofx, Sp.ofy, hz]; done) | (unfold Sp.ofx; rw [if_pos hz, ← hx]) | (unfold Sp.ofy; rw [if_pos hz, ← hy]) | (unfold Sp.ofx; rw [if_neg (by omega)]) | (unfold Sp.ofy; rw [if_neg (by omega)])))) (lcons (congrArg (Value.int .i64) (show 0 = (Sp.ofy n) from by (have hz := hofe; first | (simp only [Sp.ofx, Sp.ofy, hz]; done) | (unfold Sp.ofx; rw [if_pos hz, ← hx]) | (unfold Sp.ofy; rw [if_pos hz, ← hy]) | (unfold Sp.ofx; rw [if_neg (by omega)]) | (unfold Sp.ofy; rw [if_neg (by omega)])))) rfl))) (lcons (congrArg (Value.int .i64) (show 1 = (Sp.ofe n) from by (have hz := hofe; first | (simp only [Sp.ofx, Sp.ofy, hz]; done) | (unfold Sp.ofx; rw [if_pos hz, ← hx]) | (unfold Sp.ofy; rw [if_pos hz, ← hy]) | (unfold Sp.ofx; rw [if_neg (by omega)]) | (unfold Sp.ofy; rw [if_neg (by omega)])))) rfl))))
  · have h1p : ¬ ((n < 0)) := by first | (simpa using h1) | (have h1q := h1; simp at h1q; omega) | (have h1q := bx2 h1; simp at h1q; omega)
    refine aw_p 13 (
      .a 1 2 <| .p (does_b false (h1)) <| .a 4 2 <| .nil _ _) ?_
    refine aw_cd 26 27 (decide (n ≥ 17592186044416)) (fun h2 => ?_) (fun h2 => ?_)
    · have h2p : ((n ≥ 17592186044416)) := by first | (simpa using h2) | (have h2q := h2; simp at h2q; omega) | (have h2q := bx1 h2; simp at h2q; omega)
      have hofe : Sp.ofe n = 1 := by unfold Sp.ofe; rw [if_pos (by omega)]
      refine aw_p 53 (
        .a 3 2 <| .nil _ _) ?_
      refine aw_rt ?_
      refine then_ret ?_
      exact en_ret [.agg #[.int .i64 0, .int .i64 0], .int .i64 1] (show (.tuple #[.agg #[.int .i64 0, .int .i64 0], .int .i64 1] : Value) = (.tuple #[.agg #[.int .i64 (Sp.ofx n), .int .i64 (Sp.ofy n)], .int .i64 (Sp.ofe n)]) from (congrArg (fun z : List Value => Value.tuple z.toArray) (lcons (congrArg (fun z : List Value => Value.agg z.toArray) (lcons (congrArg (Value.int .i64) (show 0 = (Sp.ofx n) from by (have hz := hofe; first | (simp only [Sp.ofx, Sp.ofy, hz]; done) | (unfold Sp.ofx; rw [if_pos hz, ← hx]) | (unfold Sp.ofy; rw [if_pos hz, ← hy]) | (unfold Sp.ofx; rw [if_neg (by omega)]) | (unfold Sp.ofy; rw [if_neg (by omega)])))) (lcons (congrArg (Value.int .i64) (show 0 = (Sp.ofy n) from by (have hz := hofe; first | (simp only [Sp.ofx, Sp.ofy, hz]; done) | (unfold Sp.ofx; rw [if_pos hz, ← hx]) | (unfold Sp.ofy; rw [if_pos hz, ← hy]) | (unfold Sp.ofx; rw [if_neg (by omega)]) | (unfold Sp.ofy; rw [if_neg (by omega)])))) rfl))) (lcons (congrArg (Value.int .i64) (show 1 = (Sp.ofe n) from by (have hz := hofe; first | (simp only [Sp.ofx, Sp.ofy, hz]; done) | (unfold Sp.ofx; rw [if_pos hz, ← hx]) | (unfold Sp.ofy; rw [if_pos hz, ← hy]) | (unfold Sp.ofx; rw [if_neg (by omega)]) | (unfold Sp.ofy; rw [if_neg (by omega)])))) rfl))))
    · have h2p : ¬ ((n ≥ 17592186044416)) := by first | (simpa using h2) | (have h2q := h2; simp at h2q; omega) | (have h2q := bx2 h2; simp at h2q; omega)
      refine aw_sk ?_
      refine then_normal ?_
      refine aw_p 15 (
        .a 2 2 <| .nil _ _) ?_
      refine aw_sq 30 31 ?_
      refine aw_p 61 (
        .a 1 2 <| .nil _ _) ?_
      refine aw_bl 0 123 ?_
      refine aw_lp 247 ?_
      refine al_w [(0, .int .i64 n), (2, .pointer (some ⟨1, 0, none⟩)), (3, .int .i64 0), (4, .int .i64 0), (5, .int .i64 0), (6, .int .i64 (Sp.pw 0)), (10, .int .i64 n), (11, .bool false), (12, .bool false), (13, .int .i64 n), (14, .bool (decide (n ≥ 17592186044416))), (15, .bool (decide (n ≥ 17592186044416)))] [(1, ⟨[.int .i64 0, .int .i64 0], 28, true, 2⟩)] ?_
      refine al_ind (fun i : Nat × Int × Int × Int => (fun (k : Nat) (m : Int) (x : Int) (y : Int) => mkSt 0 [(0, .int .i64 m), (2, .pointer (some ⟨1, 0, none⟩)), (3, .int .i64 0), (4, .int .i64 x), (5, .int .i64 y), (6, .int .i64 (Sp.pw k)), (10, .int .i64 n), (11, .bool false), (12, .bool false), (13, .int .i64 n), (14, .bool (decide (n ≥ 17592186044416))), (15, .bool (decide (n ≥ 17592186044416)))] [(1, ⟨[.int .i64 0, .int .i64 0], 28, true, 2⟩)]) i.1 i.2.1 i.2.2.1 i.2.2.2) (fun i : Nat × Int × Int × Int => (fun (k : Nat) (m : Int) (x : Int) (y : Int) => (k ≤ 22) ∧ (m = n / Sp.p4 k) ∧ (0 ≤ m ∧ m ≤ n) ∧ (x = (Sp.pos k n).1) ∧ (y = (Sp.pos k n).2)) i.1 i.2.1 i.2.2.1 i.2.2.2) (fun i : Nat × Int × Int × Int => (fun (k : Nat) (m : Int) (x : Int) (y : Int) => 22 - k) i.1 i.2.1 i.2.2.1 i.2.2.2) (fun i hi1 ih1 => ?_) (0, n, 0, 0) (show (0 ≤ 22) ∧ (n = n / Sp.p4 0) ∧ (0 ≤ n ∧ n ≤ n) ∧ (0 = (Sp.pos 0 n).1) ∧ (0 = (Sp.pos 0 n).2) from ⟨by omega, by simp [Sp.p4], by omega, by rfl, by rfl⟩)
      obtain ⟨k, m, x, y⟩ := i
      have hi1' : (k ≤ 22) ∧ (m = n / Sp.p4 k) ∧ (0 ≤ m ∧ m ≤ n) ∧ (x = (Sp.pos k n).1) ∧ (y = (Sp.pos k n).2) := hi1
      obtain ⟨hk, hm, h0, hx, hy⟩ := hi1'
      show AL _ _ _ (mkSt 0 [(0, .int .i64 m), (2, .pointer (some ⟨1, 0, none⟩)), (3, .int .i64 0), (4, .int .i64 x), (5, .int .i64 y), (6, .int .i64 (Sp.pw k)), (10, .int .i64 n), (11, .bool false), (12, .bool false), (13, .int .i64 n), (14, .bool (decide (n ≥ 17592186044416))), (15, .bool (decide (n ≥ 17592186044416)))] [(1, ⟨[.int .i64 0, .int .i64 0], 28, true, 2⟩)]) _
      refine al_round ?_
      refine aw_sq 494 495 ?_
      refine aw_p 989 (
        .a 2 2 <| .nil _ _) ?_
      refine aw_cd 1978 1979 (decide ((Sp.pw k) < 4194304)) (fun h3 => ?_) (fun h3 => ?_)
      · have h3p : (((Sp.pw k) < 4194304)) := by first | (simpa using h3) | (have h3q := h3; simp at h3q; omega) | (have h3q := bx1 h3; simp at h3q; omega)
        have hw := Sp.pw_lt hk
        have hr := Sp.pos_round (k := k) (n := n) hm; rw [← hx, ← hy] at hr; have hb := Sp.pos_bd n k; rw [← hx, ← hy] at hb; have hb1 := Sp.pos_bd n (k + 1); rw [Sp.pw_succ] at hb1
        have k22 := hw.1 h3p
        have r1 : 0 ≤ Sp.pw k * (m / 2 % 2) ∧ Sp.pw k * (m / 2 % 2) ≤ Sp.pw k := by rcases (show m / 2 % 2 = 0 ∨ m / 2 % 2 = 1 by omega) with q | q <;> rw [q] <;> omega
        have r2 : 0 ≤ Sp.pw k * ((m + m / 2) % 2) ∧ Sp.pw k * ((m + m / 2) % 2) ≤ Sp.pw k := by rcases (show (m + m / 2) % 2 = 0 ∨ (m + m / 2) % 2 = 1 by omega) with q | q <;> rw [q] <;> omega
        refine aw_sk ?_
        refine then_normal ?_
        refine aw_sq 990 991 ?_
        refine aw_bl 1 1981 ?_
        refine aw_p 3963 (
          .a 1 2 <| .p (does_i (m / 2) ((show (IntKind.wrap .i64 (Int.tdiv m 2)) = (m / 2) from wquo (by omega) (by omega) (by omega))) .i64) <| .p (does_i (m / 2 % 2) ((show (Int.tmod (m / 2) 2) = (m / 2 % 2) from wrem (by omega))) .i64) <| .a 1 2 <| .nil _ _) ?_
        refine aw_p 7927 (
          .a 3 2 <| .p (does_i ((m + m / 2) % 2) ((show (Int.tmod (IntKind.wrap .i64 ((BitVec.ofInt 64 m ^^^ BitVec.ofInt 64 (m / 2 % 2)).toNat : Int)) 2) = ((m + m / 2) % 2) from by rw [xor_par (by omega) (by omega) (by omega)]; omega)) .i64) <| .a 1 2 <| .nil _ _) ?_
        refine aw_p 15855 (
          .a 5 2 <| .p (does_c (turned_ok x y (Sp.pw k) (m / 2 % 2) ((m + m / 2) % 2) (by omega) (by omega) (by omega))) <| .a 5 2 <| .nil _ _) ?_
        refine aw_w [(0, .int .i64 m), (2, .pointer (some ⟨1, 0, none⟩)), (3, .int .i64 0), (4, .int .i64 (Sp.tx x y (Sp.pw k) (m / 2 % 2) ((m + m / 2) % 2))), (5, .int .i64 (Sp.ty x y (Sp.pw k) (m / 2 % 2) ((m + m / 2) % 2))), (6, .int .i64 (Sp.pw k)), (7, .int .i64 (m / 2 % 2)), (8, .int .i64 ((m + m / 2) % 2)), (10, .int .i64 n), (11, .bool false), (12, .bool false), (13, .int .i64 n), (14, .bool (decide (n ≥ 17592186044416))), (15, .bool (decide (n ≥ 17592186044416))), (17, .int .i64 (Sp.pw k)), (18, .bool (decide ((Sp.pw k) < 4194304))), (21, .int .i64 m), (22, .int .i64 (m / 2)), (23, .int .i64 (m / 2 % 2)), (24, .int .i64 m), (25, .int .i64 (m / 2 % 2)), (26, .int .i64 (IntKind.wrap .i64 ((BitVec.ofInt 64 m ^^^ BitVec.ofInt 64 (m / 2 % 2)).toNat : Int))), (27, .int .i64 ((m + m / 2) % 2)), (28, .tuple #[.int .i64 (Sp.tx x y (Sp.pw k) (m / 2 % 2) ((m + m / 2) % 2)), .int .i64 (Sp.ty x y (Sp.pw k) (m / 2 % 2) ((m + m / 2) % 2))]), (29, .int .i64 x), (30, .int .i64 y), (31, .int .i64 (Sp.pw k)), (32, .int .i64 (m / 2 % 2)), (33, .int .i64 ((m + m / 2) % 2)), (34, .tuple #[.int .i64 (Sp.tx x y (Sp.pw k) (m / 2 % 2) ((m + m / 2) % 2)), .int .i64 (Sp.ty x y (Sp.pw k) (m / 2 % 2) ((m + m / 2) % 2))]), (35, .int .i64 (Sp.tx x y (Sp.pw k) (m / 2 % 2) ((m + m / 2) % 2))), (36, .int .i64 (Sp.ty x y (Sp.pw k) (m / 2 % 2) ((m + m / 2) % 2)))] [(1, ⟨[.int .i64 0, .int .i64 0], 28, true, 2⟩)] ?_
        refine aw_p 31711 (
          .a 3 2 <| .p (does_i (Sp.pw k * (m / 2 % 2)) ((show (IntKind.wrap .i64 ((Sp.pw k) * (m / 2 % 2))) = (Sp.pw k * (m / 2 % 2)) from wrap_i64 (by omega) (by omega))) .i64) <|
          .p (does_i ((Sp.tx x y (Sp.pw k) (m / 2 % 2) ((m + m / 2) % 2)) + (Sp.pw k * (m / 2 % 2))) (wrap_i64 (by omega) (by omega)) .i64) <| .a 3 2 <|
          .p (does_i (Sp.pw k * ((m + m / 2) % 2)) ((show (IntKind.wrap .i64 ((Sp.pw k) * ((m + m / 2) % 2))) = (Sp.pw k * ((m + m / 2) % 2)) from wrap_i64 (by omega) (by omega))) .i64) <|
          .p (does_i ((Sp.ty x y (Sp.pw k) (m / 2 % 2) ((m + m / 2) % 2)) + (Sp.pw k * ((m + m / 2) % 2))) (wrap_i64 (by omega) (by omega)) .i64) <| .a 2 2 <| .nil _ _) ?_
        refine aw_p1 (
          .a 1 2 <| .p (does_i (m / 4) ((show (IntKind.wrap .i64 (Int.tdiv m 4)) = (m / 4) from wquo (by omega) (by omega) (by omega))) .i64) <| .a 1 2 <| .nil _ _) ?_
        refine block_normal ?_
        refine then_normal ?_
        refine aw_p1 (
          .a 1 2 <| .p (does_i (Sp.pw (k + 1)) ((show (IntKind.wrap .i64 ((Sp.pw k) * 2)) = (Sp.pw (k + 1)) from by rw [wrap_i64 (by omega) (by omega), Sp.pw_succ]; omega)) .i64) <| .a 1 2 <| .nil _ _) ?_
        refine then_normal ?_
        refine al_w [(0, .int .i64 (m / 4)), (2, .pointer (some ⟨1, 0, none⟩)), (3, .int .i64 0), (4, .int .i64 ((Sp.tx x y (Sp.pw k) (m / 2 % 2) ((m + m / 2) % 2)) + (Sp.pw k * (m / 2 % 2)))), (5, .int .i64 ((Sp.ty x y (Sp.pw k) (m / 2 % 2) ((m + m / 2) % 2)) + (Sp.pw k * ((m + m / 2) % 2)))), (6, .int .i64 (Sp.pw (k + 1))), (10, .int .i64 n), (11, .bool false), (12, .bool false), (13, .int .i64 n), (14, .bool (decide (n ≥ 17592186044416))), (15, .bool (decide (n ≥ 17592186044416)))] [(1, ⟨[.int .i64 0, .int .i64 0], 28, true, 2⟩)] ?_
        exact ih1 ((k + 1), (m / 4), ((Sp.tx x y (Sp.pw k) (m / 2 % 2) ((m + m / 2) % 2)) + (Sp.pw k * (m / 2 % 2))), ((Sp.ty x y (Sp.pw k) (m / 2 % 2) ((m + m / 2) % 2)) + (Sp.pw k * ((m + m / 2) % 2)))) (show ((k + 1) ≤ 22) ∧ ((m / 4) = n / Sp.p4 (k + 1)) ∧ (0 ≤ (m / 4) ∧ (m / 4) ≤ n) ∧ (((Sp.tx x y (Sp.pw k) (m / 2 % 2) ((m + m / 2) % 2)) + (Sp.pw k * (m / 2 % 2))) = (Sp.pos (k + 1) n).1) ∧ (((Sp.ty x y (Sp.pw k) (m / 2 % 2) ((m + m / 2) % 2)) + (Sp.pw k * ((m + m / 2) % 2))) = (Sp.pos (k + 1) n).2) from ⟨by omega, by exact hr.2.2, by omega, by exact hr.1, by exact hr.2.1⟩) (show 22 - (k + 1) < 22 - k from by omega)
      · have h3p : ¬ (((Sp.pw k) < 4194304)) := by first | (simpa using h3) | (have h3q := h3; simp at h3q; omega) | (have h3q := bx2 h3; simp at h3q; omega)
        have hw := Sp.pw_lt hk
        have hr := Sp.pos_round (k := k) (n := n) hm; rw [← hx, ← hy] at hr; have hb := Sp.pos_bd n k; rw [← hx, ← hy] at hb; have hb1 := Sp.pos_bd n (k + 1); rw [Sp.pw_succ] at hb1
        have k22 := hw.2.1 h3p; rw [k22] at hx hy
        refine aw_ex 0 ?_
        refine then_exit ?_
        refine then_exit ?_
        refine block_exit ?_
        refine then_normal ?_
        refine aw_p 63 (
          .a 1 2 <| .p (does_i (x - 1048576) (wrap_i64 (by omega) (by omega)) .i64) <| .a 1 2 <| .p (does_i (y - 1048576) (wrap_i64 (by omega) (by omega)) .i64) <| .a 3 2 <| .nil _ _) ?_
        refine aw_sq 126 127 ?_
        refine aw_p 253 (
          .a 1 3 <| .p (does_c (pok_ok (x - 1048576) (y - 1048576))) <| .a 1 3 <| .nil _ _) ?_
        refine aw_cd 506 507 (!(((x - 1048576) == (Sp.lim 1048576 (x - 1048576))) && (((y - 1048576) == (Sp.lim 1048576 (y - 1048576))) && true))) (fun h4 => ?_) (fun h4 => ?_)
        · have hok : Sp.okb (x - 1048576) (y - 1048576) = false := by unfold Sp.okb; have q := h4; rw [Bool.not_eq_true'] at q; exact q
          have hofe : Sp.ofe n = 17 := by unfold Sp.ofe; rw [if_neg (by omega), ← hx, ← hy, hok]; rfl
          refine aw_p 1013 (
            .a 3 3 <| .nil _ _) ?_
          refine aw_w [(0, .int .i64 m), (2, .pointer (some ⟨1, 0, none⟩)), (3, .int .i64 17), (4, .int .i64 x), (5, .int .i64 y), (6, .int .i64 (Sp.pw k)), (9, .pointer (some ⟨2, 0, none⟩)), (10, .int .i64 n), (11, .bool false), (12, .bool false), (13, .int .i64 n), (14, .bool (decide (n ≥ 17592186044416))), (15, .bool (decide (n ≥ 17592186044416))), (17, .int .i64 (Sp.pw k)), (18, .bool (decide ((Sp.pw k) < 4194304))), (49, .int .i64 x), (50, .int .i64 (x - 1048576)), (51, .int .i64 y), (52, .int .i64 (y - 1048576)), (53, .agg #[.int .i64 (x - 1048576), .int .i64 (y - 1048576)]), (54, .agg #[.int .i64 (x - 1048576), .int .i64 (y - 1048576)]), (55, .bool (((x - 1048576) == (Sp.lim 1048576 (x - 1048576))) && (((y - 1048576) == (Sp.lim 1048576 (y - 1048576))) && true))), (56, .bool (!(((x - 1048576) == (Sp.lim 1048576 (x - 1048576))) && (((y - 1048576) == (Sp.lim 1048576 (y - 1048576))) && true))))] [(1, ⟨[.int .i64 0, .int .i64 0], 28, true, 2⟩), (2, ⟨[.int .i64 (x - 1048576), .int .i64 (y - 1048576)], 28, true, 2⟩)] ?_
          refine aw_rt ?_
          refine then_ret ?_
          exact en_ret [.agg #[.int .i64 0, .int .i64 0], .int .i64 17] (show (.tuple #[.agg #[.int .i64 0, .int .i64 0], .int .i64 17] : Value) = (.tuple #[.agg #[.int .i64 (Sp.ofx n), .int .i64 (Sp.ofy n)], .int .i64 (Sp.ofe n)]) from (congrArg (fun z : List Value => Value.tuple z.toArray) (lcons (congrArg (fun z : List Value => Value.agg z.toArray) (lcons (congrArg (Value.int .i64) (show 0 = (Sp.ofx n) from by (have hz := hofe; first | (simp only [Sp.ofx, Sp.ofy, hz]; done) | (unfold Sp.ofx; rw [if_pos hz, ← hx]) | (unfold Sp.ofy; rw [if_pos hz, ← hy]) | (unfold Sp.ofx; rw [if_neg (by omega)]) | (unfold Sp.ofy; rw [if_neg (by omega)])))) (lcons (congrArg (Value.int .i64) (show 0 = (Sp.ofy n) from by (have hz := hofe; first | (simp only [Sp.ofx, Sp.ofy, hz]; done) | (unfold Sp.ofx; rw [if_pos hz, ← hx]) | (unfold Sp.ofy; rw [if_pos hz, ← hy]) | (unfold Sp.ofx; rw [if_neg (by omega)]) | (unfold Sp.ofy; rw [if_neg (by omega)])))) rfl))) (lcons (congrArg (Value.int .i64) (show 17 = (Sp.ofe n) from by (have hz := hofe; first | (simp only [Sp.ofx, Sp.ofy, hz]; done) | (unfold Sp.ofx; rw [if_pos hz, ← hx]) | (unfold Sp.ofy; rw [if_pos hz, ← hy]) | (unfold Sp.ofx; rw [if_neg (by omega)]) | (unfold Sp.ofy; rw [if_neg (by omega)])))) rfl))))
        · have hok : Sp.okb (x - 1048576) (y - 1048576) = true := by unfold Sp.okb; have q := h4; rw [Bool.not_eq_false'] at q; exact q
          have hofe : Sp.ofe n = 0 := by unfold Sp.ofe; rw [if_neg (by omega), ← hx, ← hy, hok]; rfl
          refine aw_sk ?_
          refine then_normal ?_
          refine aw_p 255 (
            .a 3 3 <| .nil _ _) ?_
          refine aw_w [(0, .int .i64 m), (2, .pointer (some ⟨1, 0, none⟩)), (3, .int .i64 0), (4, .int .i64 x), (5, .int .i64 y), (6, .int .i64 (Sp.pw k)), (9, .pointer (some ⟨2, 0, none⟩)), (10, .int .i64 n), (11, .bool false), (12, .bool false), (13, .int .i64 n), (14, .bool (decide (n ≥ 17592186044416))), (15, .bool (decide (n ≥ 17592186044416))), (17, .int .i64 (Sp.pw k)), (18, .bool (decide ((Sp.pw k) < 4194304))), (49, .int .i64 x), (50, .int .i64 (x - 1048576)), (51, .int .i64 y), (52, .int .i64 (y - 1048576)), (53, .agg #[.int .i64 (x - 1048576), .int .i64 (y - 1048576)]), (54, .agg #[.int .i64 (x - 1048576), .int .i64 (y - 1048576)]), (55, .bool (((x - 1048576) == (Sp.lim 1048576 (x - 1048576))) && (((y - 1048576) == (Sp.lim 1048576 (y - 1048576))) && true))), (56, .bool (!(((x - 1048576) == (Sp.lim 1048576 (x - 1048576))) && (((y - 1048576) == (Sp.lim 1048576 (y - 1048576))) && true))))] [(1, ⟨[.int .i64 (x - 1048576), .int .i64 (y - 1048576)], 28, true, 2⟩), (2, ⟨[.int .i64 (x - 1048576), .int .i64 (y - 1048576)], 28, true, 2⟩)] ?_
          refine aw_rt ?_
          exact en_ret [.agg #[.int .i64 (x - 1048576), .int .i64 (y - 1048576)], .int .i64 0] (show (.tuple #[.agg #[.int .i64 (x - 1048576), .int .i64 (y - 1048576)], .int .i64 0] : Value) = (.tuple #[.agg #[.int .i64 (Sp.ofx n), .int .i64 (Sp.ofy n)], .int .i64 (Sp.ofe n)]) from (congrArg (fun z : List Value => Value.tuple z.toArray) (lcons (congrArg (fun z : List Value => Value.agg z.toArray) (lcons (congrArg (Value.int .i64) (show (x - 1048576) = (Sp.ofx n) from by (have hz := hofe; first | (simp only [Sp.ofx, Sp.ofy, hz]; done) | (unfold Sp.ofx; rw [if_pos hz, ← hx]) | (unfold Sp.ofy; rw [if_pos hz, ← hy]) | (unfold Sp.ofx; rw [if_neg (by omega)]) | (unfold Sp.ofy; rw [if_neg (by omega)])))) (lcons (congrArg (Value.int .i64) (show (y - 1048576) = (Sp.ofy n) from by (have hz := hofe; first | (simp only [Sp.ofx, Sp.ofy, hz]; done) | (unfold Sp.ofx; rw [if_pos hz, ← hx]) | (unfold Sp.ofy; rw [if_pos hz, ← hy]) | (unfold Sp.ofx; rw [if_neg (by omega)]) | (unfold Sp.ofy; rw [if_neg (by omega)])))) rfl))) (lcons (congrArg (Value.int .i64) (show 0 = (Sp.ofe n) from by (have hz := hofe; first | (simp only [Sp.ofx, Sp.ofy, hz]; done) | (unfold Sp.ofx; rw [if_pos hz, ← hx]) | (unfold Sp.ofy; rw [if_pos hz, ← hy]) | (unfold Sp.ofx; rw [if_neg (by omega)]) | (unfold Sp.ofy; rw [if_neg (by omega)])))) rfl))))


end Go.Proofs.Ytndkhgfecnbmnaa.Am
