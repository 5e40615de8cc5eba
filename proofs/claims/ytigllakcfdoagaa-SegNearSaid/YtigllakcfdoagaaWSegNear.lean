/-
  The walk of the law SegNear.
-/
import Derived.Test.YtigllakcfdoagaaProg
import Derived.Test.YtigllakcfdoagaaAm16
import Derived.Test.YtigllakcfdoagaaSg4
import Derived.Test.YtigllakcfdoagaaSg5
import Derived.Test.YtigllakcfdoagaaSq6
namespace Go.Proofs.Ytigllakcfdoagaa.Am
open Go Go.Proofs
set_option maxRecDepth 100000
set_option maxHeartbeats 4000000
set_option linter.unusedVariables false
set_option linter.unusedSimpArgs false

theorem segNear_walk (x y z px py ax ay bx b_y : Int) (hx : AC Try.prog 16 0 [.int .i64 x] [] (.agg #[.int .i64 px, .int .i64 py]) []) (hy : AC Try.prog 16 0 [.int .i64 y] [] (.agg #[.int .i64 ax, .int .i64 ay]) []) (hz : AC Try.prog 16 0 [.int .i64 z] [] (.agg #[.int .i64 bx, .int .i64 b_y]) []) (bpx : -40 ≤ px) (cpx : px ≤ 40) (bpy : -40 ≤ py) (cpy : py ≤ 40) (bax : -40 ≤ ax) (cax : ax ≤ 40) (bay : -40 ≤ ay) (cay : ay ≤ 40) (bbx : -40 ≤ bx) (cbx : bx ≤ 40) (bb_y : -40 ≤ b_y) (cb_y : b_y ≤ 40) (by_ : Int) (zlby_ : -9223372036854775808 ≤ by_) (zuby_ : by_ ≤ 9223372036854775807) :
    AC Try.prog 8 0 ([.int .i64 x, .int .i64 y, .int .i64 z, .int .i64 by_]) [] (.bool true) [] := by
  have s1 := Sp.sq40 (px := px) (py := py) (ax := ax) (ay := ay) (bx := bx) (b_y := b_y) (by omega) (by omega) (by omega) (by omega) (by omega) (by omega) (by omega) (by omega) (by omega) (by omega) (by omega) (by omega); have s2 := Sp.sq40 (px := px) (py := py) (ax := bx) (ay := b_y) (bx := ax) (b_y := ay) (by omega) (by omega) (by omega) (by omega) (by omega) (by omega) (by omega) (by omega) (by omega) (by omega) (by omega) (by omega); have m1 := Sp.mul_bd (a := Sp.sqn px py ax ay bx b_y) (b := Sp.sqd px py bx b_y ax ay) (A := 163840000) (B := 12800) (by omega) (by omega) (by omega) (by omega); have m2 := Sp.mul_bd (a := Sp.sqn px py bx b_y ax ay) (b := Sp.sqd px py ax ay bx b_y) (A := 163840000) (B := 12800) (by omega) (by omega) (by omega) (by omega); have eb := Sp.emod_bd by_ (n := 120) (by decide); have k0 := Sp.crs_bd (ax := px) (ay := py) (bx := ax) (b_y := ay) (cx := ax) (cy := ay) (M := 40) (by decide) ⟨by omega, by omega, by omega, by omega, by omega, by omega⟩; have n0 := Sp.mul_bd (a := Sp.dot px py ax ay ax ay) (b := Sp.sqd px py ax ay bx b_y) (A := 12800) (B := 12800) (by omega) (by omega) (by omega) (by omega); have k1 := Sp.crs_bd (ax := px) (ay := py) (bx := bx) (b_y := b_y) (cx := bx) (cy := b_y) (M := 40) (by decide) ⟨by omega, by omega, by omega, by omega, by omega, by omega⟩; have n1 := Sp.mul_bd (a := Sp.dot px py bx b_y bx b_y) (b := Sp.sqd px py ax ay bx b_y) (A := 12800) (B := 12800) (by omega) (by omega) (by omega) (by omega)
  refine ac_in Try.func8 (fun w0 W pin => ?_)
  refine aw_p 3 (
    .a 1 1 <| .nil _ _) ?_
  refine aw_sq 6 7 ?_
  refine aw_p 13 (
    .p (does_c (terrkeep1_segBegun_ok)) <| .a 1 1 <| .nil _ _) ?_
  refine aw_fl 27 ?_
  refine aw_sk ?_
  refine then_normal ?_
  refine aw_p 15 (
    .a 1 1 <| .p (does_c (hx)) <| .a 1 1 <| .p (does_c (hy)) <| .a 1 1 <| .p (does_c (hz)) <| .a 6 1 <| .nil _ _) ?_
  refine aw_p 31 (
    .a 1 4 <| .p (does_c (below_ok by_ 120 (by decide) (by decide))) <| .a 1 4 <| .nil _ _) ?_
  refine aw_p 63 (
    .a 3 4 <| .p (does_c (segsq_in px py ax ay bx b_y (by omega) (by omega) (by omega) (by omega) (by omega) (by omega) (by omega) (by omega) (by omega) (by omega) (by omega) (by omega))) <| .a 6 4 <| .nil _ _) ?_
  refine aw_p 127 (
    .a 3 5 <| .p (does_c (segsq_in px py bx b_y ax ay (by omega) (by omega) (by omega) (by omega) (by omega) (by omega) (by omega) (by omega) (by omega) (by omega) (by omega) (by omega))) <| .a 6 5 <| .nil _ _) ?_
  refine aw_sq 254 255 ?_
  refine aw_p 509 (
    .a 1 6 <| .p (does_b false ((show (decide ((Sp.sqd px py ax ay bx b_y) < 1)) = false from decide_eq_false (by omega)))) <| .a 2 6 <| .p (does_b false ((show (decide ((Sp.sqd px py bx b_y ax ay) < 1)) = false from decide_eq_false (by omega)))) <| .a 1 6 <| .nil _ _) ?_
  refine aw_fl 1019 ?_
  refine aw_sk ?_
  refine then_normal ?_
  refine aw_p 511 (
    .a 2 6 <|
    .p (does_c ((by have h := wtimes_ok (Sp.sqn px py ax ay bx b_y) (Sp.sqd px py bx b_y ax ay) (by omega) (by omega) (by omega) (by omega); rw [(Sp.tm_yes (x := (Sp.sqn px py ax ay bx b_y) * (Sp.sqd px py bx b_y ax ay)) (by omega)).1, (Sp.tm_yes (x := (Sp.sqn px py ax ay bx b_y) * (Sp.sqd px py bx b_y ax ay)) (by omega)).2] at h; exact h))) <|
    .a 6 6 <| .nil _ _) ?_
  refine aw_p 1023 (
    .a 2 7 <|
    .p (does_c ((by have h := wtimes_ok (Sp.sqn px py bx b_y ax ay) (Sp.sqd px py ax ay bx b_y) (by omega) (by omega) (by omega) (by omega); rw [(Sp.tm_yes (x := (Sp.sqn px py bx b_y ax ay) * (Sp.sqd px py ax ay bx b_y)) (by omega)).1, (Sp.tm_yes (x := (Sp.sqn px py bx b_y ax ay) * (Sp.sqd px py ax ay bx b_y)) (by omega)).2] at h; exact h))) <|
    .a 6 7 <| .nil _ _) ?_
  refine aw_sq 2046 2047 ?_
  refine aw_d 4093 (
    .a 9 8 <|
    .p (does_e false ((show (!(((Sp.wh ((Sp.sqn px py ax ay bx b_y) * (Sp.sqd px py bx b_y ax ay))) == (Sp.wh ((Sp.sqn px py bx b_y ax ay) * (Sp.sqd px py ax ay bx b_y)))) && (((Sp.wl ((Sp.sqn px py ax ay bx b_y) * (Sp.sqd px py bx b_y ax ay))) == (Sp.wl ((Sp.sqn px py bx b_y ax ay) * (Sp.sqd px py ax ay bx b_y)))) && true))) = false from (by have qq : ((Sp.sqn px py ax ay bx b_y) * (Sp.sqd px py bx b_y ax ay)) = ((Sp.sqn px py bx b_y ax ay) * (Sp.sqd px py ax ay bx b_y)) := (by exact Sp.sq_rev _ _ _ _ _ _); rw [qq]; first | (simp; done) | decide)))) <|
    .a 3 8 <| .p (does_c (wsign_ok (Sp.sqn px py ax ay bx b_y) (by omega) (by omega))) <| .a 4 8 <| .p (does_c (on_in ax ay bx b_y px py (by omega) (by omega) (by omega) (by omega) (by omega) (by omega) (by omega) (by omega) (by omega) (by omega) (by omega) (by omega))) <|
    .p (does_b false ((show (!(((Sp.cmp (Sp.sqn px py ax ay bx b_y) 0) == 0) == (Sp.onb ax ay bx b_y px py))) = false from (by rw [Sp.sq_zero]; simp)))) <| .a 1 8 <| .nil _ _) ?_
  refine aw_fl 8187 ?_
  refine aw_sk ?_
  refine then_normal ?_
  refine aw_d 4095 (
    .a 3 8 <| .p (does_c (sq_in px py ax ay (by omega) (by omega) (by omega) (by omega) (by omega) (by omega) (by omega) (by omega))) <| .a 1 8 <| .p (does_c (wmul_ok (Sp.dot px py ax ay ax ay) (Sp.sqd px py ax ay bx b_y) (by omega) (by omega) (by omega) (by omega))) <|
    .p (does_c (wcmp_ok (Sp.sqn px py ax ay bx b_y) ((Sp.dot px py ax ay ax ay) * (Sp.sqd px py ax ay bx b_y)) (by omega) (by omega) (by omega) (by omega))) <|
    .p (does_b true ((show (decide ((Sp.cmp (Sp.sqn px py ax ay bx b_y) ((Sp.dot px py ax ay ax ay) * (Sp.sqd px py ax ay bx b_y))) ≤ 0)) = true from (decide_eq_true ((Sp.cmp_le _ _).2 (by first | exact Sp.sq_end.1 | exact Sp.sq_end.2)))))) <| .a 4 8 <|
    .p (does_c (sq_in px py bx b_y (by omega) (by omega) (by omega) (by omega) (by omega) (by omega) (by omega) (by omega))) <| .a 1 8 <| .p (does_c (wmul_ok (Sp.dot px py bx b_y bx b_y) (Sp.sqd px py ax ay bx b_y) (by omega) (by omega) (by omega) (by omega))) <|
    .p (does_c (wcmp_ok (Sp.sqn px py ax ay bx b_y) ((Sp.dot px py bx b_y bx b_y) * (Sp.sqd px py ax ay bx b_y)) (by omega) (by omega) (by omega) (by omega))) <|
    .p (does_b true ((show (decide ((Sp.cmp (Sp.sqn px py ax ay bx b_y) ((Sp.dot px py bx b_y bx b_y) * (Sp.sqd px py ax ay bx b_y))) ≤ 0)) = true from (decide_eq_true ((Sp.cmp_le _ _).2 (by first | exact Sp.sq_end.1 | exact Sp.sq_end.2)))))) <| .a 2 8 <| .nil _ _) ?_
  rcases Bool.eq_false_or_eq_true (!(Sp.wthn px py ax ay bx b_y (by_ % 120))) with h1 | h1
  · refine aw_p 8191 (
      .a 6 8 <| .p (does_c (within_in px py ax ay bx b_y (by_ % 120) (by omega) (by omega) (by omega) (by omega) (by omega) (by omega) (by omega) (by omega) (by omega) (by omega) (by omega) (by omega))) <| .p (does_b true (h1)) <| .a 13 8 <|
      .p (does_cb _ (within_in px py ax ay bx b_y (-1) (by omega) (by omega) (by omega) (by omega) (by omega) (by omega) (by omega) (by omega) (by omega) (by omega) (by omega) (by omega)) false (Sp.wthn_m1 ..)) <| .a 6 8 <|
      .p (does_cb _ (within_in px py ax ay bx b_y 300 (by omega) (by omega) (by omega) (by omega) (by omega) (by omega) (by omega) (by omega) (by omega) (by omega) (by omega) (by omega)) true ((show (Sp.wthn px py ax ay bx b_y 300) = true from (Sp.wthn_300 (by omega) (by omega))))) <| .a 2 8 <| .nil _ _) ?_
    refine aw_rt ?_
    exact en_ret [.bool true] (by kernel_rfl)
  · refine aw_p 8191 (
      .a 6 8 <| .p (does_c (within_in px py ax ay bx b_y (by_ % 120) (by omega) (by omega) (by omega) (by omega) (by omega) (by omega) (by omega) (by omega) (by omega) (by omega) (by omega) (by omega))) <| .p (does_b false (h1)) <| .a 5 8 <|
      .p (does_i ((by_ % 120) + 1) (wrap_i64 (by omega) (by omega)) .i64) <|
      .p (does_cb _ (within_in px py ax ay bx b_y ((by_ % 120) + 1) (by omega) (by omega) (by omega) (by omega) (by omega) (by omega) (by omega) (by omega) (by omega) (by omega) (by omega) (by omega)) true ((show (Sp.wthn px py ax ay bx b_y ((by_ % 120) + 1)) = true from (Sp.wthn_mono (by omega) (by omega) (by first | assumption | simp_all))))) <|
      .a 6 8 <| .p (does_cb _ (within_in px py ax ay bx b_y (-1) (by omega) (by omega) (by omega) (by omega) (by omega) (by omega) (by omega) (by omega) (by omega) (by omega) (by omega) (by omega)) false (Sp.wthn_m1 ..)) <| .a 6 8 <|
      .p (does_cb _ (within_in px py ax ay bx b_y 300 (by omega) (by omega) (by omega) (by omega) (by omega) (by omega) (by omega) (by omega) (by omega) (by omega) (by omega) (by omega)) true ((show (Sp.wthn px py ax ay bx b_y 300) = true from (Sp.wthn_300 (by omega) (by omega))))) <| .a 2 8 <| .nil _ _) ?_
    refine aw_rt ?_
    exact en_ret [.bool true] (by kernel_rfl)


end Go.Proofs.Ytigllakcfdoagaa.Am
