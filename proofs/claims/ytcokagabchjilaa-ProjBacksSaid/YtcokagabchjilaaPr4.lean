/-
  The walk of the document's place.
-/
import Derived.Test.YtcokagabchjilaaProg
import Derived.Test.YtcokagabchjilaaAm16
import Derived.Test.YtcokagabchjilaaPr2
namespace Go.Proofs.Ytcokagabchjilaa.Am
open Go Go.Proofs
set_option maxRecDepth 100000
set_option maxHeartbeats 4000000
set_option linter.unusedVariables false
set_option linter.unusedSimpArgs false

theorem racross_ok (slat slon sc lon : Int) (s0 : -80000000 ≤ slat) (s1 : slat ≤ 80000000) (s2 : -180000000 ≤ slon) (s3 : slon ≤ 180000000) (s4 : 1 ≤ sc) (s5 : sc ≤ 10000) (t2 : -180000000 ≤ lon) (t3 : lon ≤ 180000000) :
    AC Try.prog 31 0 ([.int .i64 slat, .int .i64 slon, .int .i64 sc, .int .i64 lon]) [] (.agg #[.int .i64 ((Sp.acr slat slon sc lon).1), .int .i64 ((Sp.acr slat slon sc lon).2)]) [] := by
  have cb5 : ((-584701700 ≤ (Sp.cs slat 5).1 ∧ (Sp.cs slat 5).1 ≤ 584701700) ∧ (-584701700 ≤ (Sp.cs slat 5).2 ∧ (Sp.cs slat 5).2 ≤ 584701700)) ∧ (Sp.cs slat 5).1 ≤ (Sp.cs slat 5).2 := Sp.cs_bd s0 s1 5 (by decide); have wb := Sp.wy_bd s2 s3 t2 t3 s4 s5; have m0 := Sp.mul_bd (a := (Sp.wy slon sc lon).1) (b := (Sp.cs slat 5).1) (A := 14745600000) (B := 584701700) (by omega) (by omega) (by omega) (by omega); have m1 := Sp.mul_bd (a := (Sp.wy slon sc lon).1) (b := (Sp.cs slat 5).2) (A := 14745600000) (B := 584701700) (by omega) (by omega) (by omega) (by omega); have m2 := Sp.mul_bd (a := (Sp.wy slon sc lon).2) (b := (Sp.cs slat 5).1) (A := 14745600000) (B := 584701700) (by omega) (by omega) (by omega) (by omega); have m3 := Sp.mul_bd (a := (Sp.wy slon sc lon).2) (b := (Sp.cs slat 5).2) (A := 14745600000) (B := 584701700) (by omega) (by omega) (by omega) (by omega); have n4 := Sp.n4_le ((Sp.wy slon sc lon).1 * (Sp.cs slat 5).1) ((Sp.wy slon sc lon).1 * (Sp.cs slat 5).2) ((Sp.wy slon sc lon).2 * (Sp.cs slat 5).1) ((Sp.wy slon sc lon).2 * (Sp.cs slat 5).2); have y4 := Sp.y4_ge ((Sp.wy slon sc lon).1 * (Sp.cs slat 5).1) ((Sp.wy slon sc lon).1 * (Sp.cs slat 5).2) ((Sp.wy slon sc lon).2 * (Sp.cs slat 5).1) ((Sp.wy slon sc lon).2 * (Sp.cs slat 5).2)
  refine ac_in Try.func31 (fun w0 W pin => ?_)
  refine aw_p 3 (
    .a 1 1 <| .nil _ _) ?_
  refine aw_p 7 (
    .a 2 2 <| .p (does_i (lon - slon) (wrap_i64 (by omega) (by omega)) .i64) <| .a 1 2 <| .p (does_i ((lon - slon) * sc) (wrap_i64 (by omega) (by omega)) .i64) <| .a 1 2 <| .nil _ _) ?_
  refine aw_p 15 (
    .a 1 2 <| .p (does_i (((lon - slon) * sc) * 4096) (wrap_i64 (by omega) (by omega)) .i64) <| .p (does_c (rfloor_ok (((lon - slon) * sc) * 4096) 1000000 (by omega) (by omega) (by decide) (by decide))) <| .a 1 2 <| .p (does_i (((lon - slon) * sc) * 4096) (wrap_i64 (by omega) (by omega)) .i64) <|
    .p (does_c (rceil_ok (((lon - slon) * sc) * 4096) 1000000 (by omega) (by omega) (by decide) (by decide))) <| .a 3 2 <| .nil _ _) ?_
  refine aw_p 31 (
    .a 1 3 <| .p (does_c (rcosine_ok slat s0 s1)) <| .a 2 3 <| .nil _ _) ?_
  refine aw_p 63 (
    .a 4 4 <| .p (does_i (((Sp.wy slon sc lon).1) * ((Sp.cs slat 5).1)) (wrap_i64 (by omega) (by omega)) .i64) <| .a 4 4 <| .p (does_i (((Sp.wy slon sc lon).1) * ((Sp.cs slat 5).2)) (wrap_i64 (by omega) (by omega)) .i64) <| .a 4 4 <|
    .p (does_i (((Sp.wy slon sc lon).2) * ((Sp.cs slat 5).1)) (wrap_i64 (by omega) (by omega)) .i64) <| .a 4 4 <| .p (does_i (((Sp.wy slon sc lon).2) * ((Sp.cs slat 5).2)) (wrap_i64 (by omega) (by omega)) .i64) <| .a 2 4 <| .nil _ _) ?_
  refine aw_p 127 (
    .a 1 5 <| .p (does_k [4] (smin4_ok (((Sp.wy slon sc lon).1) * ((Sp.cs slat 5).1)) (((Sp.wy slon sc lon).1) * ((Sp.cs slat 5).2)) (((Sp.wy slon sc lon).2) * ((Sp.cs slat 5).1)) (((Sp.wy slon sc lon).2) * ((Sp.cs slat 5).2)))) <|
    .p (does_c (rfloor_ok (Sp.n4 (((Sp.wy slon sc lon).1) * ((Sp.cs slat 5).1)) (((Sp.wy slon sc lon).1) * ((Sp.cs slat 5).2)) (((Sp.wy slon sc lon).2) * ((Sp.cs slat 5).1)) (((Sp.wy slon sc lon).2) * ((Sp.cs slat 5).2))) 16777216 (by omega) (by omega) (by decide) (by decide))) <| .a 1 5 <|
    .p (does_k [4] (smax4_ok (((Sp.wy slon sc lon).1) * ((Sp.cs slat 5).1)) (((Sp.wy slon sc lon).1) * ((Sp.cs slat 5).2)) (((Sp.wy slon sc lon).2) * ((Sp.cs slat 5).1)) (((Sp.wy slon sc lon).2) * ((Sp.cs slat 5).2)))) <|
    .p (does_c (rceil_ok (Sp.y4 (((Sp.wy slon sc lon).1) * ((Sp.cs slat 5).1)) (((Sp.wy slon sc lon).1) * ((Sp.cs slat 5).2)) (((Sp.wy slon sc lon).2) * ((Sp.cs slat 5).1)) (((Sp.wy slon sc lon).2) * ((Sp.cs slat 5).2))) 16777216 (by omega) (by omega) (by decide) (by decide))) <| .a 2 5 <| .nil _ _) ?_
  refine aw_rt ?_
  exact en_ret [.agg #[.int .i64 ((Sp.n4 (((Sp.wy slon sc lon).1) * ((Sp.cs slat 5).1)) (((Sp.wy slon sc lon).1) * ((Sp.cs slat 5).2)) (((Sp.wy slon sc lon).2) * ((Sp.cs slat 5).1)) (((Sp.wy slon sc lon).2) * ((Sp.cs slat 5).2))) / 16777216), .int .i64 (-(-(Sp.y4 (((Sp.wy slon sc lon).1) * ((Sp.cs slat 5).1)) (((Sp.wy slon sc lon).1) * ((Sp.cs slat 5).2)) (((Sp.wy slon sc lon).2) * ((Sp.cs slat 5).1)) (((Sp.wy slon sc lon).2) * ((Sp.cs slat 5).2))) / 16777216))]] (show (.agg #[.int .i64 ((Sp.n4 (((Sp.wy slon sc lon).1) * ((Sp.cs slat 5).1)) (((Sp.wy slon sc lon).1) * ((Sp.cs slat 5).2)) (((Sp.wy slon sc lon).2) * ((Sp.cs slat 5).1)) (((Sp.wy slon sc lon).2) * ((Sp.cs slat 5).2))) / 16777216), .int .i64 (-(-(Sp.y4 (((Sp.wy slon sc lon).1) * ((Sp.cs slat 5).1)) (((Sp.wy slon sc lon).1) * ((Sp.cs slat 5).2)) (((Sp.wy slon sc lon).2) * ((Sp.cs slat 5).1)) (((Sp.wy slon sc lon).2) * ((Sp.cs slat 5).2))) / 16777216))] : Value) = (.agg #[.int .i64 ((Sp.acr slat slon sc lon).1), .int .i64 ((Sp.acr slat slon sc lon).2)]) from (congrArg (fun z : List Value => Value.agg z.toArray) (lcons (congrArg (Value.int .i64) (show ((Sp.n4 (((Sp.wy slon sc lon).1) * ((Sp.cs slat 5).1)) (((Sp.wy slon sc lon).1) * ((Sp.cs slat 5).2)) (((Sp.wy slon sc lon).2) * ((Sp.cs slat 5).1)) (((Sp.wy slon sc lon).2) * ((Sp.cs slat 5).2))) / 16777216) = ((Sp.acr slat slon sc lon).1) from by rfl)) (lcons (congrArg (Value.int .i64) (show (-(-(Sp.y4 (((Sp.wy slon sc lon).1) * ((Sp.cs slat 5).1)) (((Sp.wy slon sc lon).1) * ((Sp.cs slat 5).2)) (((Sp.wy slon sc lon).2) * ((Sp.cs slat 5).1)) (((Sp.wy slon sc lon).2) * ((Sp.cs slat 5).2))) / 16777216)) = ((Sp.acr slat slon sc lon).2) from by rfl)) rfl))))


end Go.Proofs.Ytcokagabchjilaa.Am
