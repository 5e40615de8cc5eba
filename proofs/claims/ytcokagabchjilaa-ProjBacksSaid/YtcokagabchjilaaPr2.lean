/-
  The walks of the document's angles and cosines.
-/
import Derived.Test.YtcokagabchjilaaProg
import Derived.Test.YtcokagabchjilaaAm16
import Derived.Test.YtcokagabchjilaaFr1
import Derived.Test.YtcokagabchjilaaPj3
namespace Go.Proofs.Ytcokagabchjilaa.Am
open Go Go.Proofs
set_option maxRecDepth 100000
set_option maxHeartbeats 4000000
set_option linter.unusedVariables false
set_option linter.unusedSimpArgs false

theorem rfloor_ok (n d : Int) (n0 : -9200000000000000000 ≤ n) (n1 : n ≤ 9200000000000000000) (d0 : 0 < d) (d1 : d ≤ 20000000000000000) :
    AC Try.prog 62 0 ([.int .i64 n, .int .i64 d]) [] (.int .i64 (n / d)) [] := by
  have fl := Sp.floor_leaf (n := n) d0; have t2 := Sp.tdiv_bd2 (n := n) d0; have tb := Sp.tdiv_bd (n := n) d0 (by omega) (by omega); have eb := Sp.ediv_bd (x := n) (y := d) (M := 9200000000000000000) (by omega) (by omega) (by omega)
  refine ac_in Try.func62 (fun w0 W pin => ?_)
  refine aw_p 3 (
    .a 1 1 <| .nil _ _) ?_
  refine aw_p 7 (
    .a 2 1 <| .p (does_int (n' := Int.tdiv n d) (does_quo (t := 3) (t2 := 3) (x := .tmp 6) (y := .tmp 7) (k := .i64) (a := n) (b := d) (by kernel_rfl) (by kernel_rfl) (by kernel_rfl) (by omega)) (wrap_i64 (by omega) (by omega))) <| .a 1 1 <| .nil _ _) ?_
  refine aw_sq 14 15 ?_
  refine aw_p 29 (
    .a 2 1 <| .p (does_i ((Int.tdiv n d) * d) (wrap_i64 (by omega) (by omega)) .i64) <| .a 2 1 <| .nil _ _) ?_
  refine aw_cd 58 59 (decide (((Int.tdiv n d) * d) > n)) (fun h1 => ?_) (fun h1 => ?_)
  · have h1p : ((((Int.tdiv n d) * d) > n)) := by first | (simpa using h1) | (have h1q := h1; simp at h1q; omega) | (have h1q := bx1 h1; simp at h1q; omega)
    refine aw_p1 (
      .a 1 1 <| .p (does_i ((Int.tdiv n d) - 1) (wrap_i64 (by omega) (by omega)) .i64) <| .a 1 1 <| .nil _ _) ?_
    refine then_normal ?_
    refine aw_p 31 (
      .a 2 1 <| .nil _ _) ?_
    refine aw_rt ?_
    exact en_ret [.int .i64 ((Int.tdiv n d) - 1)] (show (.int .i64 ((Int.tdiv n d) - 1) : Value) = (.int .i64 (n / d)) from (congrArg (Value.int .i64) (show ((Int.tdiv n d) - 1) = (n / d) from by (first | exact fl.1 (by omega) | exact fl.2 (by omega)))))
  · have h1p : ¬ ((((Int.tdiv n d) * d) > n)) := by first | (simpa using h1) | (have h1q := h1; simp at h1q; omega) | (have h1q := bx2 h1; simp at h1q; omega)
    refine aw_sk ?_
    refine then_normal ?_
    refine aw_p 31 (
      .a 2 1 <| .nil _ _) ?_
    refine aw_rt ?_
    exact en_ret [.int .i64 (Int.tdiv n d)] (show (.int .i64 (Int.tdiv n d) : Value) = (.int .i64 (n / d)) from (congrArg (Value.int .i64) (show (Int.tdiv n d) = (n / d) from by (first | exact fl.1 (by omega) | exact fl.2 (by omega)))))

theorem rceil_ok (n d : Int) (n0 : -9200000000000000000 ≤ n) (n1 : n ≤ 9200000000000000000) (d0 : 0 < d) (d1 : d ≤ 20000000000000000) :
    AC Try.prog 63 0 ([.int .i64 n, .int .i64 d]) [] (.int .i64 (-(-n / d))) [] := by
  have e := Sp.ediv_bd (x := 0 - n) (y := d) (M := 9200000000000000000) (by omega) (by omega) (by omega)
  refine ac_in Try.func63 (fun w0 W pin => ?_)
  refine aw_p 3 (
    .a 1 1 <| .nil _ _) ?_
  refine aw_p 7 (
    .a 1 1 <| .p (does_i (0 - n) (wrap_i64 (by omega) (by omega)) .i64) <| .a 1 1 <| .p (does_c (rfloor_ok (0 - n) d (by omega) (by omega) (by omega) (by omega))) <| .p (does_i (0 - ((0 - n) / d)) (wrap_i64 (by omega) (by omega)) .i64) <| .a 1 1 <| .nil _ _) ?_
  refine aw_rt ?_
  exact en_ret [.int .i64 (0 - ((0 - n) / d))] (show (.int .i64 (0 - ((0 - n) / d)) : Value) = (.int .i64 (-(-n / d))) from (congrArg (Value.int .i64) (show (0 - ((0 - n) / d)) = (-(-n / d)) from by (rw [Int.zero_sub, Int.zero_sub]))))

theorem smin4_ok (p q r s : Int) :
    AC Try.prog 42 1 ([.slice (some ⟨0, 0, none⟩) 4 0]) [(0, ⟨[.int .i64 p, .int .i64 q, .int .i64 r, .int .i64 s], 3, true, 1⟩)] (.int .i64 (Sp.n4 p q r s)) [(0, ⟨[.int .i64 p, .int .i64 q, .int .i64 r, .int .i64 s], 3, true, 1⟩)] := by
  refine ac_in Try.func42 (fun w0 W pin => ?_)
  refine aw_p 3 (
    .a 1 1 <| .nil _ _) ?_
  refine aw_sq 6 7 ?_
  refine aw_p 13 (
    .a 3 1 <| .nil _ _) ?_
  refine aw_fl 27 ?_
  refine aw_sk ?_
  refine then_normal ?_
  refine aw_p 15 (
    .a 4 1 <| .nil _ _) ?_
  refine aw_sq 30 31 ?_
  refine aw_p 61 (
    .a 1 1 <| .nil _ _) ?_
  refine aw_bl 0 123 ?_
  refine aw_lp 247 ?_
  refine al_round ?_
  refine aw_sq 494 495 ?_
  refine aw_p 989 (
    .a 4 1 <| .nil _ _) ?_
  refine aw_tr 1978 ?_
  refine aw_sk ?_
  refine then_normal ?_
  refine aw_sq 990 991 ?_
  refine aw_bl 1 1981 ?_
  refine aw_p1 (
    .a 7 1 <| .nil _ _) ?_
  refine block_normal ?_
  refine then_normal ?_
  refine aw_p1 (
    .a 3 1 <| .nil _ _) ?_
  refine then_normal ?_
  refine al_round ?_
  refine aw_sq 494 495 ?_
  refine aw_p 989 (
    .a 4 1 <| .nil _ _) ?_
  refine aw_tr 1978 ?_
  refine aw_sk ?_
  refine then_normal ?_
  refine aw_sq 990 991 ?_
  refine aw_bl 1 1981 ?_
  refine aw_p1 (
    .a 7 1 <| .nil _ _) ?_
  refine block_normal ?_
  refine then_normal ?_
  refine aw_p1 (
    .a 3 1 <| .nil _ _) ?_
  refine then_normal ?_
  refine al_round ?_
  refine aw_sq 494 495 ?_
  refine aw_p 989 (
    .a 4 1 <| .nil _ _) ?_
  refine aw_tr 1978 ?_
  refine aw_sk ?_
  refine then_normal ?_
  refine aw_sq 990 991 ?_
  refine aw_bl 1 1981 ?_
  refine aw_p1 (
    .a 7 1 <| .nil _ _) ?_
  refine block_normal ?_
  refine then_normal ?_
  refine aw_p1 (
    .a 3 1 <| .nil _ _) ?_
  refine then_normal ?_
  refine al_round ?_
  refine aw_sq 494 495 ?_
  refine aw_p 989 (
    .a 4 1 <| .nil _ _) ?_
  refine aw_fl 1979 ?_
  refine aw_ex 0 ?_
  refine then_exit ?_
  refine then_exit ?_
  refine block_exit ?_
  refine then_normal ?_
  refine aw_p 63 (
    .a 2 1 <| .nil _ _) ?_
  refine aw_rt ?_
  exact en_ret [.int .i64 (Sp.mn (Sp.mn (Sp.mn p q) r) s)] (show (.int .i64 (Sp.mn (Sp.mn (Sp.mn p q) r) s) : Value) = (.int .i64 (Sp.n4 p q r s)) from (congrArg (Value.int .i64) (show (Sp.mn (Sp.mn (Sp.mn p q) r) s) = (Sp.n4 p q r s) from by rfl)))

theorem smax4_ok (p q r s : Int) :
    AC Try.prog 43 1 ([.slice (some ⟨0, 0, none⟩) 4 0]) [(0, ⟨[.int .i64 p, .int .i64 q, .int .i64 r, .int .i64 s], 3, true, 1⟩)] (.int .i64 (Sp.y4 p q r s)) [(0, ⟨[.int .i64 p, .int .i64 q, .int .i64 r, .int .i64 s], 3, true, 1⟩)] := by
  refine ac_in Try.func43 (fun w0 W pin => ?_)
  refine aw_p 3 (
    .a 1 1 <| .nil _ _) ?_
  refine aw_sq 6 7 ?_
  refine aw_p 13 (
    .a 3 1 <| .nil _ _) ?_
  refine aw_fl 27 ?_
  refine aw_sk ?_
  refine then_normal ?_
  refine aw_p 15 (
    .a 4 1 <| .nil _ _) ?_
  refine aw_sq 30 31 ?_
  refine aw_p 61 (
    .a 1 1 <| .nil _ _) ?_
  refine aw_bl 0 123 ?_
  refine aw_lp 247 ?_
  refine al_round ?_
  refine aw_sq 494 495 ?_
  refine aw_p 989 (
    .a 4 1 <| .nil _ _) ?_
  refine aw_tr 1978 ?_
  refine aw_sk ?_
  refine then_normal ?_
  refine aw_sq 990 991 ?_
  refine aw_bl 1 1981 ?_
  refine aw_p1 (
    .a 7 1 <| .nil _ _) ?_
  refine block_normal ?_
  refine then_normal ?_
  refine aw_p1 (
    .a 3 1 <| .nil _ _) ?_
  refine then_normal ?_
  refine al_round ?_
  refine aw_sq 494 495 ?_
  refine aw_p 989 (
    .a 4 1 <| .nil _ _) ?_
  refine aw_tr 1978 ?_
  refine aw_sk ?_
  refine then_normal ?_
  refine aw_sq 990 991 ?_
  refine aw_bl 1 1981 ?_
  refine aw_p1 (
    .a 7 1 <| .nil _ _) ?_
  refine block_normal ?_
  refine then_normal ?_
  refine aw_p1 (
    .a 3 1 <| .nil _ _) ?_
  refine then_normal ?_
  refine al_round ?_
  refine aw_sq 494 495 ?_
  refine aw_p 989 (
    .a 4 1 <| .nil _ _) ?_
  refine aw_tr 1978 ?_
  refine aw_sk ?_
  refine then_normal ?_
  refine aw_sq 990 991 ?_
  refine aw_bl 1 1981 ?_
  refine aw_p1 (
    .a 7 1 <| .nil _ _) ?_
  refine block_normal ?_
  refine then_normal ?_
  refine aw_p1 (
    .a 3 1 <| .nil _ _) ?_
  refine then_normal ?_
  refine al_round ?_
  refine aw_sq 494 495 ?_
  refine aw_p 989 (
    .a 4 1 <| .nil _ _) ?_
  refine aw_fl 1979 ?_
  refine aw_ex 0 ?_
  refine then_exit ?_
  refine then_exit ?_
  refine block_exit ?_
  refine then_normal ?_
  refine aw_p 63 (
    .a 2 1 <| .nil _ _) ?_
  refine aw_rt ?_
  exact en_ret [.int .i64 (Sp.mx (Sp.mx (Sp.mx p q) r) s)] (show (.int .i64 (Sp.mx (Sp.mx (Sp.mx p q) r) s) : Value) = (.int .i64 (Sp.y4 p q r s)) from (congrArg (Value.int .i64) (show (Sp.mx (Sp.mx (Sp.mx p q) r) s) = (Sp.y4 p q r s) from by rfl)))

theorem routward_ok (A B a b c d : Int) (hAB : A * B ≤ 9200000000000000000) (a0 : -A ≤ a) (a1 : a ≤ A) (b0 : -A ≤ b) (b1 : b ≤ A) (c0 : -B ≤ c) (c1 : c ≤ B) (d0 : -B ≤ d) (d1 : d ≤ B) :
    AC Try.prog 64 0 ([.agg #[.int .i64 a, .int .i64 b], .agg #[.int .i64 c, .int .i64 d]]) [] (.agg #[.int .i64 ((Sp.oq 268435456 a b c d).1), .int .i64 ((Sp.oq 268435456 a b c d).2)]) [] := by
  have m0 := Sp.mul_bd a0 a1 c0 c1; have m1 := Sp.mul_bd a0 a1 d0 d1; have m2 := Sp.mul_bd b0 b1 c0 c1; have m3 := Sp.mul_bd b0 b1 d0 d1; have n4 := Sp.n4_le (a * c) (a * d) (b * c) (b * d); have y4 := Sp.y4_ge (a * c) (a * d) (b * c) (b * d)
  refine ac_in Try.func64 (fun w0 W pin => ?_)
  refine aw_p 3 (
    .a 3 1 <| .nil _ _) ?_
  refine aw_p 7 (
    .a 4 4 <| .p (does_i (a * c) (wrap_i64 (by omega) (by omega)) .i64) <| .a 4 4 <| .p (does_i (a * d) (wrap_i64 (by omega) (by omega)) .i64) <| .a 4 4 <| .p (does_i (b * c) (wrap_i64 (by omega) (by omega)) .i64) <| .a 4 4 <| .p (does_i (b * d) (wrap_i64 (by omega) (by omega)) .i64) <| .a 2 4 <| .nil _ _) ?_
  refine aw_p 15 (
    .a 1 5 <| .p (does_k [4] (smin4_ok (a * c) (a * d) (b * c) (b * d))) <| .p (does_c (rfloor_ok (Sp.n4 (a * c) (a * d) (b * c) (b * d)) 268435456 (by omega) (by omega) (by decide) (by decide))) <| .a 1 5 <| .p (does_k [4] (smax4_ok (a * c) (a * d) (b * c) (b * d))) <|
    .p (does_c (rceil_ok (Sp.y4 (a * c) (a * d) (b * c) (b * d)) 268435456 (by omega) (by omega) (by decide) (by decide))) <| .a 2 5 <| .nil _ _) ?_
  refine aw_rt ?_
  exact en_ret [.agg #[.int .i64 ((Sp.n4 (a * c) (a * d) (b * c) (b * d)) / 268435456), .int .i64 (-(-(Sp.y4 (a * c) (a * d) (b * c) (b * d)) / 268435456))]] (show (.agg #[.int .i64 ((Sp.n4 (a * c) (a * d) (b * c) (b * d)) / 268435456), .int .i64 (-(-(Sp.y4 (a * c) (a * d) (b * c) (b * d)) / 268435456))] : Value) = (.agg #[.int .i64 ((Sp.oq 268435456 a b c d).1), .int .i64 ((Sp.oq 268435456 a b c d).2)]) from (congrArg (fun z : List Value => Value.agg z.toArray) (lcons (congrArg (Value.int .i64) (show ((Sp.n4 (a * c) (a * d) (b * c) (b * d)) / 268435456) = ((Sp.oq 268435456 a b c d).1) from by rfl)) (lcons (congrArg (Value.int .i64) (show (-(-(Sp.y4 (a * c) (a * d) (b * c) (b * d)) / 268435456)) = ((Sp.oq 268435456 a b c d).2) from by rfl)) rfl))))

theorem rthrough_ok (a b n : Int) (a0 : -9200000000000000000 ≤ a) (a1 : a ≤ 9200000000000000000) (b0 : -9200000000000000000 ≤ b) (b1 : b ≤ 9200000000000000000) (n0 : 0 < n) (n1 : n ≤ 20000000000000000) :
    AC Try.prog 65 0 ([.agg #[.int .i64 a, .int .i64 b], .int .i64 n]) [] (.agg #[.int .i64 ((Sp.thq n a b).1), .int .i64 ((Sp.thq n a b).2)]) [] := by
  refine ac_in Try.func65 (fun w0 W pin => ?_)
  refine aw_p 3 (
    .a 2 1 <| .nil _ _) ?_
  refine aw_d 7 (
    .a 3 3 <| .p (does_c (rfloor_ok a n (by omega) (by omega) (by omega) (by omega))) <| .a 3 3 <| .p (does_c (rceil_ok b n (by omega) (by omega) (by omega) (by omega))) <| .a 2 3 <| .nil _ _) ?_
  refine aw_rt ?_
  exact en_ret [.agg #[.int .i64 (a / n), .int .i64 (-(-b / n))]] (show (.agg #[.int .i64 (a / n), .int .i64 (-(-b / n))] : Value) = (.agg #[.int .i64 ((Sp.thq n a b).1), .int .i64 ((Sp.thq n a b).2)]) from (congrArg (fun z : List Value => Value.agg z.toArray) (lcons (congrArg (Value.int .i64) (show (a / n) = ((Sp.thq n a b).1) from by rfl)) (lcons (congrArg (Value.int .i64) (show (-(-b / n)) = ((Sp.thq n a b).2) from by rfl)) rfl))))

theorem rradians_ok (lat : Int) (h0 : -80000000 ≤ lat) (h1 : lat ≤ 80000000) :
    AC Try.prog 27 0 ([.int .i64 lat]) [] (.agg #[.int .i64 ((Sp.rad lat).1), .int .i64 ((Sp.rad lat).2)]) [] := by
  have lb := Sp.lt0_bd h0 h1; have n4 := Sp.n4_le ((Sp.lt0 lat).1 * 314159265) ((Sp.lt0 lat).1 * 314159266) ((Sp.lt0 lat).2 * 314159265) ((Sp.lt0 lat).2 * 314159266); have y4 := Sp.y4_ge ((Sp.lt0 lat).1 * 314159265) ((Sp.lt0 lat).1 * 314159266) ((Sp.lt0 lat).2 * 314159265) ((Sp.lt0 lat).2 * 314159266)
  refine ac_in Try.func27 (fun w0 W pin => ?_)
  refine aw_p 3 (
    .a 1 1 <| .nil _ _) ?_
  refine aw_p 7 (
    .a 1 2 <| .p (does_i (lat * 268435456) (wrap_i64 (by omega) (by omega)) .i64) <| .p (does_c (rfloor_ok (lat * 268435456) 180000000 (by omega) (by omega) (by decide) (by decide))) <| .a 1 2 <| .p (does_i (lat * 268435456) (wrap_i64 (by omega) (by omega)) .i64) <|
    .p (does_c (rceil_ok (lat * 268435456) 180000000 (by omega) (by omega) (by decide) (by decide))) <| .a 2 2 <| .nil _ _) ?_
  refine aw_p 15 (
    .a 1 2 <| .p (does_i (((Sp.lt0 lat).1) * 314159265) (wrap_i64 (by omega) (by omega)) .i64) <| .a 1 2 <| .p (does_i (((Sp.lt0 lat).1) * 314159266) (wrap_i64 (by omega) (by omega)) .i64) <| .a 1 2 <| .p (does_i (((Sp.lt0 lat).2) * 314159265) (wrap_i64 (by omega) (by omega)) .i64) <| .a 1 2 <|
    .p (does_i (((Sp.lt0 lat).2) * 314159266) (wrap_i64 (by omega) (by omega)) .i64) <| .a 2 2 <| .nil _ _) ?_
  refine aw_p 31 (
    .a 1 3 <| .p (does_k [2] (smin4_ok (((Sp.lt0 lat).1) * 314159265) (((Sp.lt0 lat).1) * 314159266) (((Sp.lt0 lat).2) * 314159265) (((Sp.lt0 lat).2) * 314159266))) <|
    .p (does_c (rfloor_ok (Sp.n4 (((Sp.lt0 lat).1) * 314159265) (((Sp.lt0 lat).1) * 314159266) (((Sp.lt0 lat).2) * 314159265) (((Sp.lt0 lat).2) * 314159266)) 100000000 (by omega) (by omega) (by decide) (by decide))) <| .a 1 3 <|
    .p (does_k [2] (smax4_ok (((Sp.lt0 lat).1) * 314159265) (((Sp.lt0 lat).1) * 314159266) (((Sp.lt0 lat).2) * 314159265) (((Sp.lt0 lat).2) * 314159266))) <|
    .p (does_c (rceil_ok (Sp.y4 (((Sp.lt0 lat).1) * 314159265) (((Sp.lt0 lat).1) * 314159266) (((Sp.lt0 lat).2) * 314159265) (((Sp.lt0 lat).2) * 314159266)) 100000000 (by omega) (by omega) (by decide) (by decide))) <| .a 2 3 <| .nil _ _) ?_
  refine aw_rt ?_
  exact en_ret [.agg #[.int .i64 ((Sp.n4 (((Sp.lt0 lat).1) * 314159265) (((Sp.lt0 lat).1) * 314159266) (((Sp.lt0 lat).2) * 314159265) (((Sp.lt0 lat).2) * 314159266)) / 100000000), .int .i64 (-(-(Sp.y4 (((Sp.lt0 lat).1) * 314159265) (((Sp.lt0 lat).1) * 314159266) (((Sp.lt0 lat).2) * 314159265) (((Sp.lt0 lat).2) * 314159266)) / 100000000))]] (show (.agg #[.int .i64 ((Sp.n4 (((Sp.lt0 lat).1) * 314159265) (((Sp.lt0 lat).1) * 314159266) (((Sp.lt0 lat).2) * 314159265) (((Sp.lt0 lat).2) * 314159266)) / 100000000), .int .i64 (-(-(Sp.y4 (((Sp.lt0 lat).1) * 314159265) (((Sp.lt0 lat).1) * 314159266) (((Sp.lt0 lat).2) * 314159265) (((Sp.lt0 lat).2) * 314159266)) / 100000000))] : Value) = (.agg #[.int .i64 ((Sp.rad lat).1), .int .i64 ((Sp.rad lat).2)]) from (congrArg (fun z : List Value => Value.agg z.toArray) (lcons (congrArg (Value.int .i64) (show ((Sp.n4 (((Sp.lt0 lat).1) * 314159265) (((Sp.lt0 lat).1) * 314159266) (((Sp.lt0 lat).2) * 314159265) (((Sp.lt0 lat).2) * 314159266)) / 100000000) = ((Sp.rad lat).1) from by rfl)) (lcons (congrArg (Value.int .i64) (show (-(-(Sp.y4 (((Sp.lt0 lat).1) * 314159265) (((Sp.lt0 lat).1) * 314159266) (((Sp.lt0 lat).2) * 314159265) (((Sp.lt0 lat).2) * 314159266)) / 100000000)) = ((Sp.rad lat).2) from by rfl)) rfl))))

theorem rcosine_ok (lat : Int) (h0 : -80000000 ≤ lat) (h1 : lat ≤ 80000000) :
    AC Try.prog 28 0 ([.int .i64 lat]) [] (.agg #[.int .i64 ((Sp.cs lat 5).1), .int .i64 ((Sp.cs lat 5).2)]) [] := by
  have rb := Sp.rad_bd h0 h1; have qb := Sp.sqr_bd h0 h1; have tb := Sp.tq_bd h0 h1; have mm := Sp.mm0 (Sp.tq lat).1 (Sp.tq lat).2; have cb0 : (((-272502661 ≤ (Sp.cs lat 0).1 ∧ (Sp.cs lat 0).1 ≤ 272502661) ∧ (-272502661 ≤ (Sp.cs lat 0).2 ∧ (Sp.cs lat 0).2 ≤ 272502661)) ∧ (Sp.cs lat 0).1 ≤ (Sp.cs lat 0).2) := Sp.cs_bd h0 h1 0 (by decide); have cb1 : (((-274491073 ≤ (Sp.cs lat 1).1 ∧ (Sp.cs lat 1).1 ≤ 274491073) ∧ (-274491073 ≤ (Sp.cs lat 1).2 ∧ (Sp.cs lat 1).2 ≤ 274491073)) ∧ (Sp.cs lat 1).1 ≤ (Sp.cs lat 1).2) := Sp.cs_bd h0 h1 1 (by decide); have cb2 : (((-278238711 ≤ (Sp.cs lat 2).1 ∧ (Sp.cs lat 2).1 ≤ 278238711) ∧ (-278238711 ≤ (Sp.cs lat 2).2 ∧ (Sp.cs lat 2).2 ≤ 278238711)) ∧ (Sp.cs lat 2).1 ≤ (Sp.cs lat 2).2) := Sp.cs_bd h0 h1 2 (by decide); have cb3 : (((-286984706 ≤ (Sp.cs lat 3).1 ∧ (Sp.cs lat 3).1 ≤ 286984706) ∧ (-286984706 ≤ (Sp.cs lat 3).2 ∧ (Sp.cs lat 3).2 ≤ 286984706)) ∧ (Sp.cs lat 3).1 ≤ (Sp.cs lat 3).2) := Sp.cs_bd h0 h1 3 (by decide); have cb4 : (((-316266242 ≤ (Sp.cs lat 4).1 ∧ (Sp.cs lat 4).1 ≤ 316266242) ∧ (-316266242 ≤ (Sp.cs lat 4).2 ∧ (Sp.cs lat 4).2 ≤ 316266242)) ∧ (Sp.cs lat 4).1 ≤ (Sp.cs lat 4).2) := Sp.cs_bd h0 h1 4 (by decide); have cb5 : (((-584701700 ≤ (Sp.cs lat 5).1 ∧ (Sp.cs lat 5).1 ≤ 584701700) ∧ (-584701700 ≤ (Sp.cs lat 5).2 ∧ (Sp.cs lat 5).2 ≤ 584701700)) ∧ (Sp.cs lat 5).1 ≤ (Sp.cs lat 5).2) := Sp.cs_bd h0 h1 5 (by decide); have ub0 : (((-5965233 ≤ (Sp.uq lat 90).1 ∧ (Sp.uq lat 90).1 ≤ 5965233) ∧ (-5965233 ≤ (Sp.uq lat 90).2 ∧ (Sp.uq lat 90).2 ≤ 5965233)) ∧ (Sp.uq lat 90).1 ≤ (Sp.uq lat 90).2) := Sp.uq_bd h0 h1 (by decide) (by decide); have pb0 : (((-6055616 ≤ (Sp.pq lat 0).1 ∧ (Sp.pq lat 0).1 ≤ 6055616) ∧ (-6055616 ≤ (Sp.pq lat 0).2 ∧ (Sp.pq lat 0).2 ≤ 6055616)) ∧ (Sp.pq lat 0).1 ≤ (Sp.pq lat 0).2) := (Sp.cs_step h0 h1 0 (B := 272502661) (C := 5965233) (P := 6055616) (by decide) (by decide) (by decide) cb0).1; have ub1 : (((-9586981 ≤ (Sp.uq lat 56).1 ∧ (Sp.uq lat 56).1 ≤ 9586981) ∧ (-9586981 ≤ (Sp.uq lat 56).2 ∧ (Sp.uq lat 56).2 ≤ 9586981)) ∧ (Sp.uq lat 56).1 ≤ (Sp.uq lat 56).2) := Sp.uq_bd h0 h1 (by decide) (by decide); have pb1 : (((-9803254 ≤ (Sp.pq lat 1).1 ∧ (Sp.pq lat 1).1 ≤ 9803254) ∧ (-9803254 ≤ (Sp.pq lat 1).2 ∧ (Sp.pq lat 1).2 ≤ 9803254)) ∧ (Sp.pq lat 1).1 ≤ (Sp.pq lat 1).2) := (Sp.cs_step h0 h1 1 (B := 274491073) (C := 9586981) (P := 9803254) (by decide) (by decide) (by decide) cb1).1; have ub2 : (((-17895698 ≤ (Sp.uq lat 30).1 ∧ (Sp.uq lat 30).1 ≤ 17895698) ∧ (-17895698 ≤ (Sp.uq lat 30).2 ∧ (Sp.uq lat 30).2 ≤ 17895698)) ∧ (Sp.uq lat 30).1 ≤ (Sp.uq lat 30).2) := Sp.uq_bd h0 h1 (by decide) (by decide); have pb2 : (((-18549249 ≤ (Sp.pq lat 2).1 ∧ (Sp.pq lat 2).1 ≤ 18549249) ∧ (-18549249 ≤ (Sp.pq lat 2).2 ∧ (Sp.pq lat 2).2 ≤ 18549249)) ∧ (Sp.pq lat 2).1 ≤ (Sp.pq lat 2).2) := (Sp.cs_step h0 h1 2 (B := 278238711) (C := 17895698) (P := 18549249) (by decide) (by decide) (by decide) cb2).1; have ub3 : (((-44739243 ≤ (Sp.uq lat 12).1 ∧ (Sp.uq lat 12).1 ≤ 44739243) ∧ (-44739243 ≤ (Sp.uq lat 12).2 ∧ (Sp.uq lat 12).2 ≤ 44739243)) ∧ (Sp.uq lat 12).1 ≤ (Sp.uq lat 12).2) := Sp.uq_bd h0 h1 (by decide) (by decide); have pb3 : (((-47830786 ≤ (Sp.pq lat 3).1 ∧ (Sp.pq lat 3).1 ≤ 47830786) ∧ (-47830786 ≤ (Sp.pq lat 3).2 ∧ (Sp.pq lat 3).2 ≤ 47830786)) ∧ (Sp.pq lat 3).1 ≤ (Sp.pq lat 3).2) := (Sp.cs_step h0 h1 3 (B := 286984706) (C := 44739243) (P := 47830786) (by decide) (by decide) (by decide) cb3).1; have ub4 : (((-268435457 ≤ (Sp.uq lat 2).1 ∧ (Sp.uq lat 2).1 ≤ 268435457) ∧ (-268435457 ≤ (Sp.uq lat 2).2 ∧ (Sp.uq lat 2).2 ≤ 268435457)) ∧ (Sp.uq lat 2).1 ≤ (Sp.uq lat 2).2) := Sp.uq_bd h0 h1 (by decide) (by decide); have pb4 : (((-316266244 ≤ (Sp.pq lat 4).1 ∧ (Sp.pq lat 4).1 ≤ 316266244) ∧ (-316266244 ≤ (Sp.pq lat 4).2 ∧ (Sp.pq lat 4).2 ≤ 316266244)) ∧ (Sp.pq lat 4).1 ≤ (Sp.pq lat 4).2) := (Sp.cs_step h0 h1 4 (B := 316266242) (C := 268435457) (P := 316266244) (by decide) (by decide) (by decide) cb4).1
  refine ac_in Try.func28 (fun w0 W pin => ?_)
  refine aw_p 3 (
    .a 1 1 <| .nil _ _) ?_
  refine aw_p 7 (
    .a 1 2 <| .p (does_c (rradians_ok lat (by omega) (by omega))) <| .a 2 2 <| .nil _ _) ?_
  refine aw_p 15 (
    .a 2 3 <| .p (does_c (routward_ok 374806608 374806608 ((Sp.rad lat).1) ((Sp.rad lat).2) ((Sp.rad lat).1) ((Sp.rad lat).2) (by decide) (by omega) (by omega) (by omega) (by omega) (by omega) (by omega) (by omega) (by omega))) <| .a 2 3 <| .nil _ _) ?_
  refine aw_p 31 (
    .a 1 4 <| .p (does_c (rthrough_ok ((Sp.sqr lat).1) ((Sp.sqr lat).2) 132 (by omega) (by omega) (by omega) (by omega) (by decide) (by decide))) <| .a 2 4 <| .nil _ _) ?_
  refine aw_p 63 (
    .a 3 5 <| .p (does_i ((Sp.cs lat 0).1) ((show (IntKind.wrap .i64 (268435456 - (Sp.mx ((Sp.tq lat).2) 0))) = ((Sp.cs lat 0).1) from (show _ = (Sp.cs lat 0).1 from (wrap_i64 (by omega) (by omega))))) .i64) <| .a 3 5 <|
    .p (does_i ((Sp.cs lat 0).2) ((show (IntKind.wrap .i64 (268435456 - (Sp.mn ((Sp.tq lat).1) 0))) = ((Sp.cs lat 0).2) from (show _ = (Sp.cs lat 0).2 from (wrap_i64 (by omega) (by omega))))) .i64) <| .a 3 5 <| .nil _ _) ?_
  refine aw_sq 126 127 ?_
  refine aw_p 253 (
    .a 3 6 <| .nil _ _) ?_
  refine aw_bl 0 507 ?_
  refine aw_lp 1015 ?_
  refine al_round ?_
  refine aw_p 2031 (
    .a 1 7 <| .nil _ _) ?_
  refine aw_sq 4062 4063 ?_
  refine aw_tr 8124 ?_
  refine aw_sk ?_
  refine then_normal ?_
  refine aw_sq 8126 8127 ?_
  refine aw_bl 1 16253 ?_
  refine aw_p 32507 (
    .a 3 7 <| .nil _ _) ?_
  refine aw_d 65015 (
    .a 2 7 <| .p (does_c (rthrough_ok ((Sp.sqr lat).1) ((Sp.sqr lat).2) 90 (by omega) (by omega) (by omega) (by omega) (by decide) (by decide))) <| .a 1 7 <|
    .p (does_c (routward_ok 5965233 272502661 ((Sp.uq lat 90).1) ((Sp.uq lat 90).2) ((Sp.cs lat 0).1) ((Sp.cs lat 0).2) (by decide) (by omega) (by omega) (by omega) (by omega) (by omega) (by omega) (by omega) (by omega))) <| .a 2 7 <| .nil _ _) ?_
  refine aw_p1 (
    .a 2 8 <| .p (does_i ((Sp.cs lat 1).1) ((show (IntKind.wrap .i64 (268435456 - ((Sp.pq lat 0).2))) = ((Sp.cs lat 1).1) from (show _ = (Sp.cs lat 1).1 from (wrap_i64 (by omega) (by omega))))) .i64) <| .a 2 8 <|
    .p (does_i ((Sp.cs lat 1).2) ((show (IntKind.wrap .i64 (268435456 - ((Sp.pq lat 0).1))) = ((Sp.cs lat 1).2) from (show _ = (Sp.cs lat 1).2 from (wrap_i64 (by omega) (by omega))))) .i64) <| .a 2 8 <| .nil _ _) ?_
  refine block_normal ?_
  refine then_normal ?_
  refine aw_p1 (
    .a 2 8 <| .nil _ _) ?_
  refine then_normal ?_
  refine al_round ?_
  refine aw_p 2031 (
    .a 1 8 <| .nil _ _) ?_
  refine aw_sq 4062 4063 ?_
  refine aw_tr 8124 ?_
  refine aw_sk ?_
  refine then_normal ?_
  refine aw_sq 8126 8127 ?_
  refine aw_bl 1 16253 ?_
  refine aw_p 32507 (
    .a 3 8 <| .nil _ _) ?_
  refine aw_d 65015 (
    .a 2 8 <| .p (does_c (rthrough_ok ((Sp.sqr lat).1) ((Sp.sqr lat).2) 56 (by omega) (by omega) (by omega) (by omega) (by decide) (by decide))) <| .a 1 8 <|
    .p (does_c (routward_ok 9586981 274491073 ((Sp.uq lat 56).1) ((Sp.uq lat 56).2) ((Sp.cs lat 1).1) ((Sp.cs lat 1).2) (by decide) (by omega) (by omega) (by omega) (by omega) (by omega) (by omega) (by omega) (by omega))) <| .a 2 8 <| .nil _ _) ?_
  refine aw_p1 (
    .a 2 9 <| .p (does_i ((Sp.cs lat 2).1) ((show (IntKind.wrap .i64 (268435456 - ((Sp.pq lat 1).2))) = ((Sp.cs lat 2).1) from (show _ = (Sp.cs lat 2).1 from (wrap_i64 (by omega) (by omega))))) .i64) <| .a 2 9 <|
    .p (does_i ((Sp.cs lat 2).2) ((show (IntKind.wrap .i64 (268435456 - ((Sp.pq lat 1).1))) = ((Sp.cs lat 2).2) from (show _ = (Sp.cs lat 2).2 from (wrap_i64 (by omega) (by omega))))) .i64) <| .a 2 9 <| .nil _ _) ?_
  refine block_normal ?_
  refine then_normal ?_
  refine aw_p1 (
    .a 2 9 <| .nil _ _) ?_
  refine then_normal ?_
  refine al_round ?_
  refine aw_p 2031 (
    .a 1 9 <| .nil _ _) ?_
  refine aw_sq 4062 4063 ?_
  refine aw_tr 8124 ?_
  refine aw_sk ?_
  refine then_normal ?_
  refine aw_sq 8126 8127 ?_
  refine aw_bl 1 16253 ?_
  refine aw_p 32507 (
    .a 3 9 <| .nil _ _) ?_
  refine aw_d 65015 (
    .a 2 9 <| .p (does_c (rthrough_ok ((Sp.sqr lat).1) ((Sp.sqr lat).2) 30 (by omega) (by omega) (by omega) (by omega) (by decide) (by decide))) <| .a 1 9 <|
    .p (does_c (routward_ok 17895698 278238711 ((Sp.uq lat 30).1) ((Sp.uq lat 30).2) ((Sp.cs lat 2).1) ((Sp.cs lat 2).2) (by decide) (by omega) (by omega) (by omega) (by omega) (by omega) (by omega) (by omega) (by omega))) <| .a 2 9 <| .nil _ _) ?_
  refine aw_p1 (
    .a 2 10 <| .p (does_i ((Sp.cs lat 3).1) ((show (IntKind.wrap .i64 (268435456 - ((Sp.pq lat 2).2))) = ((Sp.cs lat 3).1) from (show _ = (Sp.cs lat 3).1 from (wrap_i64 (by omega) (by omega))))) .i64) <| .a 2 10 <|
    .p (does_i ((Sp.cs lat 3).2) ((show (IntKind.wrap .i64 (268435456 - ((Sp.pq lat 2).1))) = ((Sp.cs lat 3).2) from (show _ = (Sp.cs lat 3).2 from (wrap_i64 (by omega) (by omega))))) .i64) <| .a 2 10 <| .nil _ _) ?_
  refine block_normal ?_
  refine then_normal ?_
  refine aw_p1 (
    .a 2 10 <| .nil _ _) ?_
  refine then_normal ?_
  refine al_round ?_
  refine aw_p 2031 (
    .a 1 10 <| .nil _ _) ?_
  refine aw_sq 4062 4063 ?_
  refine aw_tr 8124 ?_
  refine aw_sk ?_
  refine then_normal ?_
  refine aw_sq 8126 8127 ?_
  refine aw_bl 1 16253 ?_
  refine aw_p 32507 (
    .a 3 10 <| .nil _ _) ?_
  refine aw_d 65015 (
    .a 2 10 <| .p (does_c (rthrough_ok ((Sp.sqr lat).1) ((Sp.sqr lat).2) 12 (by omega) (by omega) (by omega) (by omega) (by decide) (by decide))) <| .a 1 10 <|
    .p (does_c (routward_ok 44739243 286984706 ((Sp.uq lat 12).1) ((Sp.uq lat 12).2) ((Sp.cs lat 3).1) ((Sp.cs lat 3).2) (by decide) (by omega) (by omega) (by omega) (by omega) (by omega) (by omega) (by omega) (by omega))) <| .a 2 10 <| .nil _ _) ?_
  refine aw_p1 (
    .a 2 11 <| .p (does_i ((Sp.cs lat 4).1) ((show (IntKind.wrap .i64 (268435456 - ((Sp.pq lat 3).2))) = ((Sp.cs lat 4).1) from (show _ = (Sp.cs lat 4).1 from (wrap_i64 (by omega) (by omega))))) .i64) <| .a 2 11 <|
    .p (does_i ((Sp.cs lat 4).2) ((show (IntKind.wrap .i64 (268435456 - ((Sp.pq lat 3).1))) = ((Sp.cs lat 4).2) from (show _ = (Sp.cs lat 4).2 from (wrap_i64 (by omega) (by omega))))) .i64) <| .a 2 11 <| .nil _ _) ?_
  refine block_normal ?_
  refine then_normal ?_
  refine aw_p1 (
    .a 2 11 <| .nil _ _) ?_
  refine then_normal ?_
  refine al_round ?_
  refine aw_p 2031 (
    .a 1 11 <| .nil _ _) ?_
  refine aw_sq 4062 4063 ?_
  refine aw_tr 8124 ?_
  refine aw_sk ?_
  refine then_normal ?_
  refine aw_sq 8126 8127 ?_
  refine aw_bl 1 16253 ?_
  refine aw_p 32507 (
    .a 3 11 <| .nil _ _) ?_
  refine aw_d 65015 (
    .a 2 11 <| .p (does_c (rthrough_ok ((Sp.sqr lat).1) ((Sp.sqr lat).2) 2 (by omega) (by omega) (by omega) (by omega) (by decide) (by decide))) <| .a 1 11 <|
    .p (does_c (routward_ok 268435457 316266242 ((Sp.uq lat 2).1) ((Sp.uq lat 2).2) ((Sp.cs lat 4).1) ((Sp.cs lat 4).2) (by decide) (by omega) (by omega) (by omega) (by omega) (by omega) (by omega) (by omega) (by omega))) <| .a 2 11 <| .nil _ _) ?_
  refine aw_p1 (
    .a 2 12 <| .p (does_i ((Sp.cs lat 5).1) ((show (IntKind.wrap .i64 (268435456 - ((Sp.pq lat 4).2))) = ((Sp.cs lat 5).1) from (show _ = (Sp.cs lat 5).1 from (wrap_i64 (by omega) (by omega))))) .i64) <| .a 2 12 <|
    .p (does_i ((Sp.cs lat 5).2) ((show (IntKind.wrap .i64 (268435456 - ((Sp.pq lat 4).1))) = ((Sp.cs lat 5).2) from (show _ = (Sp.cs lat 5).2 from (wrap_i64 (by omega) (by omega))))) .i64) <| .a 2 12 <| .nil _ _) ?_
  refine block_normal ?_
  refine then_normal ?_
  refine aw_p1 (
    .a 2 12 <| .nil _ _) ?_
  refine then_normal ?_
  refine al_round ?_
  refine aw_p 2031 (
    .a 1 12 <| .nil _ _) ?_
  refine aw_sq 4062 4063 ?_
  refine aw_fl 8125 ?_
  refine aw_ex 0 ?_
  refine then_exit ?_
  refine then_exit ?_
  refine block_exit ?_
  refine then_normal ?_
  refine aw_p 255 (
    .a 2 12 <| .nil _ _) ?_
  refine aw_rt ?_
  exact en_ret [.agg #[.int .i64 ((Sp.cs lat 5).1), .int .i64 ((Sp.cs lat 5).2)]] (by kernel_rfl)

theorem fixed_ok (a b d : Int) (a0 : -9200000000000000000 ≤ a) (a1 : a ≤ 9200000000000000000) (b0 : -9200000000000000000 ≤ b) (b1 : b ≤ 9200000000000000000) (d0 : 0 < d) (d1 : d ≤ 20000000000000000) :
    AC Try.prog 26 0 ([.agg #[.int .i64 a, .int .i64 b], .int .i64 d]) [] (.agg #[.int .i64 (Sp.qn (Sp.fx d a)), .int .i64 (Sp.qd (Sp.fx d a)), .int .i64 (Sp.qn (Sp.fx d b)), .int .i64 (Sp.qd (Sp.fx d b))]) [] := by
  refine ac_in Try.func26 (fun w0 W pin => ?_)
  refine aw_p 3 (
    .a 2 1 <| .nil _ _) ?_
  refine aw_p 7 (
    .a 2 3 <| .p (does_c (llof_ok a (by omega) (by omega))) <| .a 1 3 <| .p (does_c (llof_ok d (by omega) (by omega))) <|
    .p (does_c ((by have h := rratio_ok a d (by omega) (by omega) (by omega) (by omega); rw [(Sp.dv_yes (a := ((a : Int) : Rat)) (b := ((d : Int) : Rat)) (Sp.ne_rat (d := d) (by omega))).1, (Sp.dv_yes (a := ((a : Int) : Rat)) (b := ((d : Int) : Rat)) (Sp.ne_rat (d := d) (by omega))).2.1, (Sp.dv_yes (a := ((a : Int) : Rat)) (b := ((d : Int) : Rat)) (Sp.ne_rat (d := d) (by omega))).2.2, Sp.qe_fit (q := ((a : Int) : Rat) / ((d : Int) : Rat)) (Sp.fx_fit (D := d) (n := a) (by omega) (by omega) (by omega) (by omega))] at h; exact h))) <|
    .a 6 3 <| .nil _ _) ?_
  refine aw_p 15 (
    .a 2 4 <| .p (does_c (llof_ok b (by omega) (by omega))) <| .a 1 4 <| .p (does_c (llof_ok d (by omega) (by omega))) <|
    .p (does_c ((by have h := rratio_ok b d (by omega) (by omega) (by omega) (by omega); rw [(Sp.dv_yes (a := ((b : Int) : Rat)) (b := ((d : Int) : Rat)) (Sp.ne_rat (d := d) (by omega))).1, (Sp.dv_yes (a := ((b : Int) : Rat)) (b := ((d : Int) : Rat)) (Sp.ne_rat (d := d) (by omega))).2.1, (Sp.dv_yes (a := ((b : Int) : Rat)) (b := ((d : Int) : Rat)) (Sp.ne_rat (d := d) (by omega))).2.2, Sp.qe_fit (q := ((b : Int) : Rat) / ((d : Int) : Rat)) (Sp.fx_fit (D := d) (n := b) (by omega) (by omega) (by omega) (by omega))] at h; exact h))) <|
    .a 6 4 <| .nil _ _) ?_
  refine aw_p 31 (
    .a 4 5 <| .nil _ _) ?_
  refine aw_rt ?_
  exact en_ret [.agg #[.int .i64 (Sp.qn (Sp.fx d a)), .int .i64 (Sp.qd (Sp.fx d a)), .int .i64 (Sp.qn (Sp.fx d b)), .int .i64 (Sp.qd (Sp.fx d b))]] (by kernel_rfl)


end Go.Proofs.Ytcokagabchjilaa.Am
