/-
  The walk of the law BoxCuts.
-/
import Derived.Test.YtmpeiinmbpjjdaaProg
import Derived.Test.YtmpeiinmbpjjdaaAm16
import Derived.Test.YtmpeiinmbpjjdaaBo
import Derived.Test.YtmpeiinmbpjjdaaBi
import Derived.Test.YtmpeiinmbpjjdaaBs2
namespace Go.Proofs.Ytmpeiinmbpjjdaa.Am
open Go Go.Proofs
set_option maxRecDepth 100000
set_option maxHeartbeats 4000000
set_option linter.unusedVariables false
set_option linter.unusedSimpArgs false

theorem boxCuts_walk (xs ys : List Int) (n : Nat) (hr : xs.length * 8 ≤ 140737488351232) (x y px py qx qy : Int) (hxx : AC Try.prog 7 0 [.int .i64 x] [] (.agg #[.int .i64 px, .int .i64 py]) []) (hyy : AC Try.prog 7 0 [.int .i64 y] [] (.agg #[.int .i64 qx, .int .i64 qy]) []) (bpx : -40 ≤ px) (cpx : px ≤ 40) (bpy : -40 ≤ py) (cpy : py ≤ 40) (bqx : -40 ≤ qx) (cqx : qx ≤ 40) (bqy : -40 ≤ qy) (cqy : qy ≤ 40) (hx1 : Sp.In64 x) (hy1 : Sp.In64 y) (hys : x :: y :: Int.tdiv x 7 :: Int.tdiv y 7 :: xs = ys) (hn : min (ys.length / 4) 12 = n) :
    AC Try.prog 4 1 ([.slice (some ⟨0, 0, none⟩) xs.length 0, .int .i64 x, .int .i64 y]) [(0, ⟨(xs.map i64v), 3, false, 1⟩)] (.bool true) [] := by
  have b0 := Sp.bx_bd ys 0; have hy4 : 4 + xs.length = ys.length := by rw [← hys]; simp; omega
  refine ac_in Try.func4 (fun w0 W pin => ?_)
  refine aw_p 3 (
    .a 1 1 <| .nil _ _) ?_
  refine aw_sq 6 7 ?_
  refine aw_p 13 (
    .p (does_c (terrkeep1_boxBegun_ok)) <| .a 1 1 <| .nil _ _) ?_
  refine aw_fl 27 ?_
  refine aw_sk ?_
  refine then_normal ?_
  refine aw_p 15 (
    .a 3 1 <| .p (does_i (Int.tdiv x 7) (wrap_i64 (Sp.tdiv_in hx1 (by decide)).1 (Sp.tdiv_in hx1 (by decide)).2) .i64) <| .a 1 1 <| .p (does_i (Int.tdiv y 7) (wrap_i64 (Sp.tdiv_in hy1 (by decide)).1 (Sp.tdiv_in hy1 (by decide)).2) .i64) <| .a 2 1 <|
    .p (does_apl ys.length 2 3 1 8 1 4 0 xs.length ⟨[.int .i64 x, .int .i64 y, .int .i64 (Int.tdiv x 7), .int .i64 (Int.tdiv y 7)], 3, true, 1⟩ ⟨(xs.map i64v), 3, false, 1⟩ (ys.map i64v) (by kernel_rfl) (by kernel_rfl) (by kernel_rfl) (by kernel_rfl) (by kernel_rfl) (plain_map _) (by simp) (by omega) (by omega) (by rw [← hys]; rfl) (by omega)) <|
    .p (does_callB (x := .func 6) (ars := #[.tmp 24]) (ats := #[22]) (g := 6) (vs := [.slice (some ⟨2, 0, none⟩) ys.length 0]) (m := 1) (r := 1) (firsts := #[]) (caps := #[]) (args0 := [.slice (some ⟨0, 0, none⟩) ys.length 0]) (pre0 := [(0, ⟨(ys.map i64v), 3, true, 1⟩)]) (post0 := [(0, ⟨(ys.map i64v), 3, true, 1⟩), (1, ⟨((List.range n).flatMap (Sp.bxc ys)), 29, true, 4⟩)]) (pre := [(2, ⟨(ys.map i64v), 3, true, 1⟩)]) (post := [(2, ⟨(ys.map i64v), 3, true, 1⟩), (3, ⟨((List.range n).flatMap (Sp.bxc ys)), 29, true, 4⟩)]) (v0 := .slice (some ⟨1, 0, none⟩) n 0) (v := .slice (some ⟨3, 0, none⟩) n 0) [2, 3] (by kernel_rfl) (by kernel_rfl) (by kernel_rfl) (by kernel_rfl) (boxes_own ys n hn (by omega) (by omega)) (.cons (.slice _ _ _ _ _ (by decide)) .nil) ⟨rfl, ⟨rfl, rfl, rfl, (.flats (flats_map (fun _ => rfl) _))⟩, trivial⟩ (by kernel_rfl) (by kernel_rfl) (by kernel_rfl) ⟨rfl, ⟨rfl, rfl, rfl, (.flats (flats_map (fun _ => rfl) _))⟩, rfl, ⟨rfl, rfl, rfl, (.flats (range_flats (fun _ => rfl) _))⟩, trivial⟩ (.slice _ _ _ _ _ (by decide))) <|
    .a 1 4 <| .nil _ _) ?_
  refine aw_sq 30 31 ?_
  refine aw_p 61 (
    .a 2 4 <| .p (does_b false ((show (((n : Nat) : Int) == 0) = false from (by simp; omega)))) <| .nil _ _) ?_
  refine aw_fl 123 ?_
  refine aw_sk ?_
  refine then_normal ?_
  refine aw_p 63 (
    .a 1 4 <| .p (does_indexSlice (t := 24) (x := .tmp 29) (y := .const (.int .i64 0)) (k := 3) (off := 0) (n := n) (c := 0) (z := 4) (kd := .i64) (j := 0) (by kernel_rfl) (by kernel_rfl) (by kernel_rfl) (by kernel_rfl) (by kernel_rfl) (by omega) (by omega)) <|
    .p (does_load (t := 29) (x := .tmp 30) (k := 3) (off := 0) (b := ⟨((List.range n).flatMap (Sp.bxc ys)), 29, true, 4⟩) (v := .agg #[.int .i64 (Sp.bxA ys 0), .int .i64 (Sp.bxB ys 0), .int .i64 (Sp.bxC ys 0), .int .i64 (Sp.bxD ys 0)]) (by kernel_rfl) (by kernel_rfl) (by kernel_rfl) (ldV_range (z := 4) (j := 0) (fun _ => rfl) (by kernel_rfl) (by kernel_rfl) (by omega) (by omega))) <|
    .a 2 4 <| .nil _ _) ?_
  refine aw_p 127 (
    .a 1 5 <| .p (does_c (hxx)) <| .a 1 5 <| .p (does_c (hyy)) <| .a 4 5 <| .nil _ _) ?_
  refine aw_p 255 (
    .a 3 7 <| .p (does_c (hit_in (Sp.bxA ys 0) (Sp.bxB ys 0) (Sp.bxC ys 0) (Sp.bxD ys 0) px py qx qy (Sp.bok_small b0) (by omega) (by omega) (by omega) (by omega) (by omega) (by omega) (by omega) (by omega))) <| .a 1 7 <| .nil _ _) ?_
  refine aw_p 511 (
    .a 2 7 <| .p (does_c (gap_in (Sp.bxA ys 0) (Sp.bxB ys 0) (Sp.bxC ys 0) (Sp.bxD ys 0) px py (Sp.bok_small b0) (by omega) (by omega) (by omega) (by omega))) <| .a 5 7 <| .nil _ _) ?_
  refine aw_sq 1022 1023 ?_
  refine aw_d 2045 (
    .a 7 7 <| .p (does_c (hit_in (Sp.bxA ys 0) (Sp.bxB ys 0) (Sp.bxC ys 0) (Sp.bxD ys 0) qx qy px py (Sp.bok_small b0) (by omega) (by omega) (by omega) (by omega) (by omega) (by omega) (by omega) (by omega))) <|
    .p (does_b false ((show (!((Sp.hitb (Sp.bxA ys 0) (Sp.bxB ys 0) (Sp.bxC ys 0) (Sp.bxD ys 0) px py qx qy) == (Sp.hitb (Sp.bxA ys 0) (Sp.bxB ys 0) (Sp.bxC ys 0) (Sp.bxD ys 0) qx qy px py))) = false from (by rw [Sp.hit_sym]; simp)))) <| .a 6 7 <|
    .p (does_c (has_ok (Sp.bxA ys 0) (Sp.bxB ys 0) (Sp.bxC ys 0) (Sp.bxD ys 0) px py)) <|
    .p (does_b false ((show (!(((Sp.gapN (Sp.bxA ys 0) (Sp.bxB ys 0) (Sp.bxC ys 0) (Sp.bxD ys 0) px py) == 0) == (Sp.inbox (Sp.bxA ys 0) (Sp.bxB ys 0) (Sp.bxC ys 0) (Sp.bxD ys 0) px py))) = false from (by rw [Sp.gap_zero (by omega) (by omega)]; simp)))) <| .a 5 7 <|
    .p (does_c (hit_in (Sp.bxA ys 0) (Sp.bxB ys 0) (Sp.bxC ys 0) (Sp.bxD ys 0) px py px py (Sp.bok_small b0) (by omega) (by omega) (by omega) (by omega) (by omega) (by omega) (by omega) (by omega))) <| .a 2 7 <| .p (does_c (has_ok (Sp.bxA ys 0) (Sp.bxB ys 0) (Sp.bxC ys 0) (Sp.bxD ys 0) px py)) <|
    .p (does_b false ((show (!((Sp.hitb (Sp.bxA ys 0) (Sp.bxB ys 0) (Sp.bxC ys 0) (Sp.bxD ys 0) px py px py) == (Sp.inbox (Sp.bxA ys 0) (Sp.bxB ys 0) (Sp.bxC ys 0) (Sp.bxD ys 0) px py))) = false from (by rw [Sp.hit_self (by omega) (by omega)]; simp)))) <| .a 1 7 <| .nil _ _) ?_
  refine aw_fl 4091 ?_
  refine aw_sk ?_
  refine then_normal ?_
  refine aw_sq 2046 2047 ?_
  rcases Bool.eq_false_or_eq_true (Sp.inbox (Sp.bxA ys 0) (Sp.bxB ys 0) (Sp.bxC ys 0) (Sp.bxD ys 0) px py) with h1 | h1
  · refine aw_p 4093 (
      .a 2 7 <| .p (does_cb _ (has_ok (Sp.bxA ys 0) (Sp.bxB ys 0) (Sp.bxC ys 0) (Sp.bxD ys 0) px py) true (h1)) <| .a 5 7 <| .nil _ _) ?_
    refine aw_tr 8186 ?_
    refine aw_p 16373 (
      .a 2 7 <| .nil _ _) ?_
    refine aw_rt ?_
    refine then_ret ?_
    exact en_ret [.bool (Sp.hitb (Sp.bxA ys 0) (Sp.bxB ys 0) (Sp.bxC ys 0) (Sp.bxD ys 0) px py qx qy)] (show (.bool (Sp.hitb (Sp.bxA ys 0) (Sp.bxB ys 0) (Sp.bxC ys 0) (Sp.bxD ys 0) px py qx qy) : Value) = (.bool true) from (congrArg Value.bool (show (Sp.hitb (Sp.bxA ys 0) (Sp.bxB ys 0) (Sp.bxC ys 0) (Sp.bxD ys 0) px py qx qy) = true from by first | exact Sp.hit_has (by omega) (by omega) (.inl (by assumption)) | exact Sp.hit_has (by omega) (by omega) (.inr (by assumption)))))
  · refine aw_p 4093 (
      .a 2 7 <| .p (does_cb _ (has_ok (Sp.bxA ys 0) (Sp.bxB ys 0) (Sp.bxC ys 0) (Sp.bxD ys 0) px py) false (h1)) <| .a 3 7 <| .p (does_c (has_ok (Sp.bxA ys 0) (Sp.bxB ys 0) (Sp.bxC ys 0) (Sp.bxD ys 0) qx qy)) <| .a 1 7 <| .nil _ _) ?_
    refine aw_cd 8186 8187 (Sp.inbox (Sp.bxA ys 0) (Sp.bxB ys 0) (Sp.bxC ys 0) (Sp.bxD ys 0) qx qy) (fun h2 => ?_) (fun h2 => ?_)
    · refine aw_p 16373 (
        .a 2 7 <| .nil _ _) ?_
      refine aw_rt ?_
      refine then_ret ?_
      exact en_ret [.bool (Sp.hitb (Sp.bxA ys 0) (Sp.bxB ys 0) (Sp.bxC ys 0) (Sp.bxD ys 0) px py qx qy)] (show (.bool (Sp.hitb (Sp.bxA ys 0) (Sp.bxB ys 0) (Sp.bxC ys 0) (Sp.bxD ys 0) px py qx qy) : Value) = (.bool true) from (congrArg Value.bool (show (Sp.hitb (Sp.bxA ys 0) (Sp.bxB ys 0) (Sp.bxC ys 0) (Sp.bxD ys 0) px py qx qy) = true from by first | exact Sp.hit_has (by omega) (by omega) (.inl (by assumption)) | exact Sp.hit_has (by omega) (by omega) (.inr (by assumption)))))
    · refine aw_sk ?_
      refine then_normal ?_
      rcases Bool.eq_false_or_eq_true (!(Sp.hitb (Sp.bxA ys 0) (Sp.bxB ys 0) (Sp.bxC ys 0) (Sp.bxD ys 0) px py qx qy)) with h3 | h3
      · refine aw_d 4095 (
          .a 1 7 <| .p (does_b true (h3)) <| .a 16 7 <| .nil _ _) ?_
        refine aw_rt ?_
        exact en_ret [.bool true] (by kernel_rfl)
      · refine aw_d 4095 (
          .a 1 7 <| .p (does_b false (h3)) <| .a 5 7 <|
          .p (does_callB (x := .func 15) (ars := #[.tmp 89]) (ats := #[39]) (g := 15) (vs := [.slice (some ⟨7, 0, none⟩) 2 0]) (m := 1) (r := 0) (firsts := #[]) (caps := #[]) (args0 := [.slice (some ⟨0, 0, none⟩) ([(px, py), (qx, qy)].length) 0]) (pre0 := [(0, ⟨(([(px, py), (qx, qy)]).flatMap ptc), 27, true, 2⟩)]) (post0 := [(0, ⟨(([(px, py), (qx, qy)]).flatMap ptc), 27, true, 2⟩)]) (pre := [(7, ⟨[.int .i64 px, .int .i64 py, .int .i64 qx, .int .i64 qy], 27, true, 2⟩)]) (post := [(7, ⟨[.int .i64 px, .int .i64 py, .int .i64 qx, .int .i64 qy], 27, true, 2⟩)]) (v0 := .agg #[.int .i64 (Sp.mn px qx), .int .i64 (Sp.mn py qy), .int .i64 (Sp.mx px qx), .int .i64 (Sp.mx py qy)]) (v := .agg #[.int .i64 (Sp.mn px qx), .int .i64 (Sp.mn py qy), .int .i64 (Sp.mx px qx), .int .i64 (Sp.mx py qy)]) [7] (by kernel_rfl) (by kernel_rfl) (by kernel_rfl) (by kernel_rfl) ((by have h := boxof_own ([(px, py), (qx, qy)]) (by simp); rw [Sp.bxo_two px py qx qy, Sp.lim_small (x := px) (by omega) (by omega), Sp.lim_small (x := py) (by omega) (by omega), Sp.lim_small (x := qx) (by omega) (by omega), Sp.lim_small (x := qy) (by omega) (by omega)] at h; exact h)) (.cons (.slice _ _ _ _ _ (by decide)) .nil) ⟨rfl, ⟨rfl, rfl, rfl, (.flats (flats_pair _))⟩, trivial⟩ (by kernel_rfl) (by kernel_rfl) (by kernel_rfl) ⟨rfl, ⟨rfl, rfl, rfl, (.flats (flats_pair _))⟩, trivial⟩ (.flatB (by kernel_rfl))) <|
          .p (does_cb _ (meet_ok (Sp.bxA ys 0) (Sp.bxB ys 0) (Sp.bxC ys 0) (Sp.bxD ys 0) (Sp.mn px qx) (Sp.mn py qy) (Sp.mx px qx) (Sp.mx py qy)) true ((show (Sp.meet (Sp.bxA ys 0) (Sp.bxB ys 0) (Sp.bxC ys 0) (Sp.bxD ys 0) (Sp.mn px qx) (Sp.mn py qy) (Sp.mx px qx) (Sp.mx py qy)) = true from Sp.hit_meet (by simpa using h3)))) <|
          .a 4 8 <| .p (does_c (sq_in px py qx qy (by omega) (by omega) (by omega) (by omega) (by omega) (by omega) (by omega) (by omega))) <|
          .p (does_b true ((show (decide ((Sp.gapN (Sp.bxA ys 0) (Sp.bxB ys 0) (Sp.bxC ys 0) (Sp.bxD ys 0) px py) ≤ (Sp.dot px py qx qy qx qy))) = true from decide_eq_true (Sp.hit_gap (by omega) (by omega) (by simpa using h3))))) <| .a 3 8 <| .nil _ _) ?_
        refine aw_rt ?_
        exact en_ret [.bool true] (by kernel_rfl)


end Go.Proofs.Ytmpeiinmbpjjdaa.Am
