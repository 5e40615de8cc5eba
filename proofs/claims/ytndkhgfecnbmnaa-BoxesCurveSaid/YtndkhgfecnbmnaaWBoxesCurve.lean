/-
  The walk of the law BoxesCurve.
-/
import Derived.Test.YtndkhgfecnbmnaaProg
import Derived.Test.YtndkhgfecnbmnaaAm16
import Derived.Test.YtndkhgfecnbmnaaCv
import Derived.Test.YtndkhgfecnbmnaaBg
import Derived.Test.YtndkhgfecnbmnaaHb
import Derived.Test.YtndkhgfecnbmnaaHp
import Derived.Test.YtndkhgfecnbmnaaBc1
namespace Go.Proofs.Ytndkhgfecnbmnaa.Am
open Go Go.Proofs
set_option maxRecDepth 100000
set_option maxHeartbeats 4000000
set_option linter.unusedVariables false
set_option linter.unusedSimpArgs false

theorem boxesCurve_walk (z : Int) (x y a b c d : Int) (hx : AC Try.prog 36 0 [.int .i64 x] [] (.agg #[.int .i64 a, .int .i64 b]) []) (hy : AC Try.prog 36 0 [.int .i64 y] [] (.agg #[.int .i64 c, .int .i64 d]) []) (ba : -40 ≤ a) (ca : a ≤ 40) (bb : -40 ≤ b) (cb : b ≤ 40) (bc : -40 ≤ c) (cc : c ≤ 40) (bd : -40 ≤ d) (cd : d ≤ 40) (m : Nat) (hm : m < 8) (hk : AC Try.prog 44 0 [.int .i64 z, .int .i64 8] [] (.int .i64 ((m : Nat) : Int)) []) (X0 Y0 wd : Int) (hX : (a + 1048576) / Sp.pw m * Sp.pw m = X0) (hY : (b + 1048576) / Sp.pw m * Sp.pw m = Y0) (hW : Sp.pw m = wd) :
    AC Try.prog 7 0 ([.int .i64 x, .int .i64 y, .int .i64 z]) [] (.bool true) [] := by
  have w8 := Sp.pw8 hm; have e1 := Sp.cell_bd (a := a + 1048576) w8.1 (by omega); have e2 := Sp.cell_bd (a := b + 1048576) w8.1 (by omega); have ib := Sp.index_bd a b; rw [hX, hW] at e1; rw [hY, hW] at e2; rw [hW] at w8
  refine ac_in Try.func7 (fun w0 W pin => ?_)
  refine aw_p 3 (
    .a 1 1 <| .nil _ _) ?_
  refine aw_sq 6 7 ?_
  refine aw_p 13 (
    .p (does_c (h6begun_ok)) <| .a 3 1 <| .p (does_c (cindex_ok (-1048576) (-1048576))) <| .p (does_b false ((show ((Sp.index (-1048576) (-1048576)) != 0) = false from by kernel_rfl))) <| .a 1 1 <| .nil _ _) ?_
  refine aw_fl 27 ?_
  refine aw_sk ?_
  refine then_normal ?_
  refine aw_p 15 (
    .a 1 1 <| .p (does_c (hx)) <| .a 1 1 <| .p (does_c (hy)) <| .a 4 1 <| .nil _ _) ?_
  refine aw_p 31 (
    .a 1 3 <| .p (does_c (hk)) <| .a 1 3 <| .nil _ _) ?_
  refine aw_d 63 (
    .a 2 3 <| .p (does_i (a + 1048576) (wrap_i64 (by omega) (by omega)) .i64) <| .a 1 3 <|
    .p (does_int (n' := (a + 1048576) / Sp.pw m) (does_shr (t := 3) (t2 := 3) (x := .tmp 31) (y := .tmp 32) (k := .i64) (k2 := .i64) (a := (a + 1048576)) (b := ((m : Nat) : Int)) (by kernel_rfl) (by kernel_rfl) (by kernel_rfl) (by omega) (by show _ ≤ 64; omega)) ((show (Int.fdiv (a + 1048576) (2 ^ ((m : Nat) : Int).toNat)) = ((a + 1048576) / Sp.pw m) from by rw [Int.toNat_natCast]; exact shr_div))) <|
    .a 1 3 <|
    .p (does_int (n' := X0) (does_shl (t := 3) (t2 := 3) (x := .tmp 33) (y := .tmp 34) (k := .i64) (k2 := .i64) (a := ((a + 1048576) / Sp.pw m)) (b := ((m : Nat) : Int)) (by kernel_rfl) (by kernel_rfl) (by kernel_rfl) (by omega) (by show _ ≤ 64; omega)) ((show (IntKind.wrap .i64 (((a + 1048576) / Sp.pw m) * 2 ^ ((m : Nat) : Int).toNat)) = X0 from by rw [Int.toNat_natCast, show (2 : Int) ^ m = Sp.pw m from rfl, hX]; exact wrap_i64 (by omega) (by omega)))) <|
    .p (does_i (X0 - 1048576) (wrap_i64 (by omega) (by omega)) .i64) <| .a 2 3 <| .p (does_i (b + 1048576) (wrap_i64 (by omega) (by omega)) .i64) <| .a 1 3 <|
    .p (does_int (n' := (b + 1048576) / Sp.pw m) (does_shr (t := 3) (t2 := 3) (x := .tmp 39) (y := .tmp 40) (k := .i64) (k2 := .i64) (a := (b + 1048576)) (b := ((m : Nat) : Int)) (by kernel_rfl) (by kernel_rfl) (by kernel_rfl) (by omega) (by show _ ≤ 64; omega)) ((show (Int.fdiv (b + 1048576) (2 ^ ((m : Nat) : Int).toNat)) = ((b + 1048576) / Sp.pw m) from by rw [Int.toNat_natCast]; exact shr_div))) <|
    .a 1 3 <|
    .p (does_int (n' := Y0) (does_shl (t := 3) (t2 := 3) (x := .tmp 41) (y := .tmp 42) (k := .i64) (k2 := .i64) (a := ((b + 1048576) / Sp.pw m)) (b := ((m : Nat) : Int)) (by kernel_rfl) (by kernel_rfl) (by kernel_rfl) (by omega) (by show _ ≤ 64; omega)) ((show (IntKind.wrap .i64 (((b + 1048576) / Sp.pw m) * 2 ^ ((m : Nat) : Int).toNat)) = Y0 from by rw [Int.toNat_natCast, show (2 : Int) ^ m = Sp.pw m from rfl, hY]; exact wrap_i64 (by omega) (by omega)))) <|
    .p (does_i (Y0 - 1048576) (wrap_i64 (by omega) (by omega)) .i64) <| .a 3 3 <| .nil _ _) ?_
  refine aw_d 127 (
    .a 4 4 <|
    .p (does_int (n' := wd) (does_shl (t := 3) (t2 := 3) (x := .const (.int .i64 1)) (y := .tmp 49) (k := .i64) (k2 := .i64) (a := 1) (b := ((m : Nat) : Int)) (by kernel_rfl) (by kernel_rfl) (by kernel_rfl) (by omega) (by show _ ≤ 64; omega)) ((show (IntKind.wrap .i64 (1 * 2 ^ ((m : Nat) : Int).toNat)) = wd from by rw [Int.toNat_natCast, show (2 : Int) ^ m = Sp.pw m from rfl, hW, Int.one_mul]; exact wrap_i64 (by omega) (by omega)))) <|
    .p (does_i ((X0 - 1048576) + wd) (wrap_i64 (by omega) (by omega)) .i64) <| .p (does_i (((X0 - 1048576) + wd) - 1) (wrap_i64 (by omega) (by omega)) .i64) <| .a 3 4 <|
    .p (does_int (n' := wd) (does_shl (t := 3) (t2 := 3) (x := .const (.int .i64 1)) (y := .tmp 55) (k := .i64) (k2 := .i64) (a := 1) (b := ((m : Nat) : Int)) (by kernel_rfl) (by kernel_rfl) (by kernel_rfl) (by omega) (by show _ ≤ 64; omega)) ((show (IntKind.wrap .i64 (1 * 2 ^ ((m : Nat) : Int).toNat)) = wd from by rw [Int.toNat_natCast, show (2 : Int) ^ m = Sp.pw m from rfl, hW, Int.one_mul]; exact wrap_i64 (by omega) (by omega)))) <|
    .p (does_i ((Y0 - 1048576) + wd) (wrap_i64 (by omega) (by omega)) .i64) <| .p (does_i (((Y0 - 1048576) + wd) - 1) (wrap_i64 (by omega) (by omega)) .i64) <| .a 4 4 <| .nil _ _) ?_
  refine aw_p 255 (
    .a 1 5 <| .p (does_c (cindex_ok a b)) <| .a 1 5 <| .nil _ _) ?_
  refine aw_p 511 (
    .a 1 5 <| .p (does_i ((Sp.index a b) + 1) (wrap_i64 (by omega) (by omega)) .i64) <| .p (does_c (cof_ok ((Sp.index a b) + 1))) <| .a 6 5 <| .nil _ _) ?_
  refine aw_p 1023 (
    .a 2 6 <| .p (does_c (gap_in (X0 - 1048576) (Y0 - 1048576) (((X0 - 1048576) + wd) - 1) (((Y0 - 1048576) + wd) - 1) c d (Sp.bok_big (by omega)) (by omega) (by omega) (by omega) (by omega))) <| .a 5 6 <| .nil _ _) ?_
  rcases Bool.eq_false_or_eq_true ((Sp.ofe ((Sp.index a b) + 1)) != 0) with h1 | h1
  · have h1p : (¬ ((Sp.ofe ((Sp.index a b) + 1)) = 0)) := by first | (simpa using h1) | (have h1q := h1; simp at h1q; omega) | (have h1q := bx1 h1; simp at h1q; omega)
    refine aw_d 2047 (
      .a 1 6 <| .p (does_cb _ (bok_ok (X0 - 1048576) (Y0 - 1048576) (((X0 - 1048576) + wd) - 1) (((Y0 - 1048576) + wd) - 1)) true ((show (Sp.bok (X0 - 1048576) (Y0 - 1048576) (((X0 - 1048576) + wd) - 1) (((Y0 - 1048576) + wd) - 1)) = true from (Sp.bok_big (by omega))))) <| .a 3 6 <|
      .p (does_cb _ (has_ok (X0 - 1048576) (Y0 - 1048576) (((X0 - 1048576) + wd) - 1) (((Y0 - 1048576) + wd) - 1) a b) true ((show (Sp.inbox (X0 - 1048576) (Y0 - 1048576) (((X0 - 1048576) + wd) - 1) (((Y0 - 1048576) + wd) - 1) a b) = true from ((Sp.inbox_iff' ..).2 (by omega))))) <| .a 4 6 <|
      .p (does_c (has_ok (X0 - 1048576) (Y0 - 1048576) (((X0 - 1048576) + wd) - 1) (((Y0 - 1048576) + wd) - 1) c d)) <| .a 1 6 <| .p (does_c (cindex_ok c d)) <| .a 1 6 <| .p (does_i (2 * ((m : Nat) : Int)) (wrap_i64 (by omega) (by omega)) .i64) <|
      .p (does_int (n' := Sp.index c d / Sp.p4 m) (does_shr (t := 3) (t2 := 3) (x := .tmp 87) (y := .tmp 89) (k := .i64) (k2 := .i64) (a := (Sp.index c d)) (b := (2 * ((m : Nat) : Int))) (by kernel_rfl) (by kernel_rfl) (by kernel_rfl) (by omega) (by show _ ≤ 64; omega)) ((show (Int.fdiv (Sp.index c d) (2 ^ (2 * ((m : Nat) : Int)).toNat)) = (Sp.index c d / Sp.p4 m) from by rw [show (2 * ((m : Nat) : Int)).toNat = 2 * m by omega, shr_div]; unfold Sp.p4; rw [Int.pow_mul, show (2 : Int) ^ 2 = 4 from rfl]))) <|
      .a 2 6 <| .p (does_i (2 * ((m : Nat) : Int)) (wrap_i64 (by omega) (by omega)) .i64) <|
      .p (does_int (n' := Sp.index a b / Sp.p4 m) (does_shr (t := 3) (t2 := 3) (x := .tmp 91) (y := .tmp 93) (k := .i64) (k2 := .i64) (a := (Sp.index a b)) (b := (2 * ((m : Nat) : Int))) (by kernel_rfl) (by kernel_rfl) (by kernel_rfl) (by omega) (by show _ ≤ 64; omega)) ((show (Int.fdiv (Sp.index a b) (2 ^ (2 * ((m : Nat) : Int)).toNat)) = (Sp.index a b / Sp.p4 m) from by rw [show (2 * ((m : Nat) : Int)).toNat = 2 * m by omega, shr_div]; unfold Sp.p4; rw [Int.pow_mul, show (2 : Int) ^ 2 = 4 from rfl]))) <|
      .a 1 6 <|
      .p (does_b true ((show ((Sp.inbox (X0 - 1048576) (Y0 - 1048576) (((X0 - 1048576) + wd) - 1) (((Y0 - 1048576) + wd) - 1) c d) == ((Sp.index c d / Sp.p4 m) == (Sp.index a b / Sp.p4 m))) = true from (by rw [(Sp.cell_has (a := a) (b := b) (c := c) (d := d) hm ⟨⟨by omega, by omega⟩, ⟨by omega, by omega⟩, ⟨by omega, by omega⟩, ⟨by omega, by omega⟩⟩ (by rw [hX]) (by rw [hY]) (by rw [hW]) (by rw [hW]))]; simp)))) <|
      .a 10 6 <| .p (does_c (has_ok (X0 - 1048576) (Y0 - 1048576) (((X0 - 1048576) + wd) - 1) (((Y0 - 1048576) + wd) - 1) c d)) <|
      .p (does_b true ((show (((Sp.gapN (X0 - 1048576) (Y0 - 1048576) (((X0 - 1048576) + wd) - 1) (((Y0 - 1048576) + wd) - 1) c d) == 0) == (Sp.inbox (X0 - 1048576) (Y0 - 1048576) (((X0 - 1048576) + wd) - 1) (((Y0 - 1048576) + wd) - 1) c d)) = true from (by rw [Sp.gap_zero (by omega) (by omega)]; simp)))) <|
      .a 3 6 <| .p (does_b true (h1)) <| .a 10 6 <| .nil _ _) ?_
    refine aw_rt ?_
    exact en_ret [.bool true] (by kernel_rfl)
  · have h1p : ¬ (¬ ((Sp.ofe ((Sp.index a b) + 1)) = 0)) := by first | (simpa using h1) | (have h1q := h1; simp at h1q; omega) | (have h1q := bx2 h1; simp at h1q; omega)
    refine aw_d 2047 (
      .a 1 6 <| .p (does_cb _ (bok_ok (X0 - 1048576) (Y0 - 1048576) (((X0 - 1048576) + wd) - 1) (((Y0 - 1048576) + wd) - 1)) true ((show (Sp.bok (X0 - 1048576) (Y0 - 1048576) (((X0 - 1048576) + wd) - 1) (((Y0 - 1048576) + wd) - 1)) = true from (Sp.bok_big (by omega))))) <| .a 3 6 <|
      .p (does_cb _ (has_ok (X0 - 1048576) (Y0 - 1048576) (((X0 - 1048576) + wd) - 1) (((Y0 - 1048576) + wd) - 1) a b) true ((show (Sp.inbox (X0 - 1048576) (Y0 - 1048576) (((X0 - 1048576) + wd) - 1) (((Y0 - 1048576) + wd) - 1) a b) = true from ((Sp.inbox_iff' ..).2 (by omega))))) <| .a 4 6 <|
      .p (does_c (has_ok (X0 - 1048576) (Y0 - 1048576) (((X0 - 1048576) + wd) - 1) (((Y0 - 1048576) + wd) - 1) c d)) <| .a 1 6 <| .p (does_c (cindex_ok c d)) <| .a 1 6 <| .p (does_i (2 * ((m : Nat) : Int)) (wrap_i64 (by omega) (by omega)) .i64) <|
      .p (does_int (n' := Sp.index c d / Sp.p4 m) (does_shr (t := 3) (t2 := 3) (x := .tmp 87) (y := .tmp 89) (k := .i64) (k2 := .i64) (a := (Sp.index c d)) (b := (2 * ((m : Nat) : Int))) (by kernel_rfl) (by kernel_rfl) (by kernel_rfl) (by omega) (by show _ ≤ 64; omega)) ((show (Int.fdiv (Sp.index c d) (2 ^ (2 * ((m : Nat) : Int)).toNat)) = (Sp.index c d / Sp.p4 m) from by rw [show (2 * ((m : Nat) : Int)).toNat = 2 * m by omega, shr_div]; unfold Sp.p4; rw [Int.pow_mul, show (2 : Int) ^ 2 = 4 from rfl]))) <|
      .a 2 6 <| .p (does_i (2 * ((m : Nat) : Int)) (wrap_i64 (by omega) (by omega)) .i64) <|
      .p (does_int (n' := Sp.index a b / Sp.p4 m) (does_shr (t := 3) (t2 := 3) (x := .tmp 91) (y := .tmp 93) (k := .i64) (k2 := .i64) (a := (Sp.index a b)) (b := (2 * ((m : Nat) : Int))) (by kernel_rfl) (by kernel_rfl) (by kernel_rfl) (by omega) (by show _ ≤ 64; omega)) ((show (Int.fdiv (Sp.index a b) (2 ^ (2 * ((m : Nat) : Int)).toNat)) = (Sp.index a b / Sp.p4 m) from by rw [show (2 * ((m : Nat) : Int)).toNat = 2 * m by omega, shr_div]; unfold Sp.p4; rw [Int.pow_mul, show (2 : Int) ^ 2 = 4 from rfl]))) <|
      .a 1 6 <|
      .p (does_b true ((show ((Sp.inbox (X0 - 1048576) (Y0 - 1048576) (((X0 - 1048576) + wd) - 1) (((Y0 - 1048576) + wd) - 1) c d) == ((Sp.index c d / Sp.p4 m) == (Sp.index a b / Sp.p4 m))) = true from (by rw [(Sp.cell_has (a := a) (b := b) (c := c) (d := d) hm ⟨⟨by omega, by omega⟩, ⟨by omega, by omega⟩, ⟨by omega, by omega⟩, ⟨by omega, by omega⟩⟩ (by rw [hX]) (by rw [hY]) (by rw [hW]) (by rw [hW]))]; simp)))) <|
      .a 10 6 <| .p (does_c (has_ok (X0 - 1048576) (Y0 - 1048576) (((X0 - 1048576) + wd) - 1) (((Y0 - 1048576) + wd) - 1) c d)) <|
      .p (does_b true ((show (((Sp.gapN (X0 - 1048576) (Y0 - 1048576) (((X0 - 1048576) + wd) - 1) (((Y0 - 1048576) + wd) - 1) c d) == 0) == (Sp.inbox (X0 - 1048576) (Y0 - 1048576) (((X0 - 1048576) + wd) - 1) (((Y0 - 1048576) + wd) - 1) c d)) = true from (by rw [Sp.gap_zero (by omega) (by omega)]; simp)))) <|
      .a 3 6 <| .p (does_b false (h1)) <| .a 3 6 <|
      .p (does_callB (x := .func 42) (ars := #[.tmp 115]) (ats := #[30]) (g := 42) (vs := [.slice (some ⟨6, 0, none⟩) 1 0]) (m := 1) (r := 0) (firsts := #[]) (caps := #[]) (args0 := [.slice (some ⟨0, 0, none⟩) ([(a, b)].length) 0]) (pre0 := [(0, ⟨(([(a, b)]).flatMap ptc), 28, true, 2⟩)]) (post0 := [(0, ⟨(([(a, b)]).flatMap ptc), 28, true, 2⟩)]) (pre := [(6, ⟨[.int .i64 a, .int .i64 b], 28, true, 2⟩)]) (post := [(6, ⟨[.int .i64 a, .int .i64 b], 28, true, 2⟩)]) (v0 := .agg #[.int .i64 a, .int .i64 b, .int .i64 a, .int .i64 b]) (v := .agg #[.int .i64 a, .int .i64 b, .int .i64 a, .int .i64 b]) [6] (by kernel_rfl) (by kernel_rfl) (by kernel_rfl) (by kernel_rfl) ((by have h := boxof_own ([(a, b)]) (by simp); rw [Sp.bxo_one a b, Sp.lim_small (x := a) (by omega) (by omega), Sp.lim_small (x := b) (by omega) (by omega)] at h; exact h)) (.cons (.slice _ _ _ _ _ (by decide)) .nil) ⟨rfl, ⟨rfl, rfl, rfl, (.flats (flats_pair _))⟩, trivial⟩ (by kernel_rfl) (by kernel_rfl) (by kernel_rfl) ⟨rfl, ⟨rfl, rfl, rfl, (.flats (flats_pair _))⟩, trivial⟩ (.flatB (by kernel_rfl))) <|
      .p (does_c (grow_in a b a b 1 (by omega) (by omega) (by omega) (by omega) (by omega) (by omega) (by omega) (by omega) (by omega) (by omega))) <| .a 1 7 <|
      .p (does_cb _ (has_ok (a - 1) (b - 1) (a + 1) (b + 1) (Sp.ofx ((Sp.index a b) + 1)) (Sp.ofy ((Sp.index a b) + 1))) true ((show (Sp.inbox (a - 1) (b - 1) (a + 1) (b + 1) (Sp.ofx ((Sp.index a b) + 1)) (Sp.ofy ((Sp.index a b) + 1))) = true from (Sp.next_in ⟨by omega, by omega⟩ (by simpa using h1))))) <|
      .a 3 7 <| .nil _ _) ?_
    refine aw_rt ?_
    exact en_ret [.bool true] (by kernel_rfl)


end Go.Proofs.Ytndkhgfecnbmnaa.Am
