/-
  The walks of a box and a segment, of a box and a point.
-/
import Derived.Test.YtmpeiinmbpjjdaaProg
import Derived.Test.YtmpeiinmbpjjdaaAm16
import Derived.Test.YtmpeiinmbpjjdaaBx
import Derived.Test.YtmpeiinmbpjjdaaSq7
namespace Go.Proofs.Ytmpeiinmbpjjdaa.Am
open Go Go.Proofs
set_option maxRecDepth 100000
set_option maxHeartbeats 4000000
set_option linter.unusedVariables false
set_option linter.unusedSimpArgs false

theorem hit_ok (lx ly hx hy ax ay cx cy : Int) (h : Sp.bok lx ly hx hy = true) :
    AC Try.prog 16 0 ([.agg #[.int .i64 lx, .int .i64 ly, .int .i64 hx, .int .i64 hy], .agg #[.int .i64 ax, .int .i64 ay], .agg #[.int .i64 cx, .int .i64 cy]]) [] (.bool (Sp.hitb lx ly hx hy (Sp.lim 1048576 ax) (Sp.lim 1048576 ay) (Sp.lim 1048576 cx) (Sp.lim 1048576 cy))) [] := by
  have qax := Sp.lim_bd (m := 1048576) (by decide) ax; have qay := Sp.lim_bd (m := 1048576) (by decide) ay; have qcx := Sp.lim_bd (m := 1048576) (by decide) cx; have qcy := Sp.lim_bd (m := 1048576) (by decide) cy; have bb := Sp.bok_bd h
  refine ac_in Try.func16 (fun w0 W pin => ?_)
  refine aw_p 3 (
    .a 4 1 <| .nil _ _) ?_
  refine aw_sq 6 7 ?_
  refine aw_d 13 (
    .a 1 4 <| .p (does_c ((by have q := bok_ok lx ly hx hy; rw [h] at q; exact q))) <| .a 6 4 <|
    .p (does_callB (x := .func 15) (ars := #[.tmp 19]) (ats := #[39]) (g := 15) (vs := [.slice (some ⟨4, 0, none⟩) 2 0]) (m := 1) (r := 0) (firsts := #[]) (caps := #[]) (args0 := [.slice (some ⟨0, 0, none⟩) ([(ax, ay), (cx, cy)].length) 0]) (pre0 := [(0, ⟨(([(ax, ay), (cx, cy)]).flatMap ptc), 27, true, 2⟩)]) (post0 := [(0, ⟨(([(ax, ay), (cx, cy)]).flatMap ptc), 27, true, 2⟩)]) (pre := [(4, ⟨[.int .i64 ax, .int .i64 ay, .int .i64 cx, .int .i64 cy], 27, true, 2⟩)]) (post := [(4, ⟨[.int .i64 ax, .int .i64 ay, .int .i64 cx, .int .i64 cy], 27, true, 2⟩)]) (v0 := .agg #[.int .i64 (Sp.mn (Sp.lim 1048576 ax) (Sp.lim 1048576 cx)), .int .i64 (Sp.mn (Sp.lim 1048576 ay) (Sp.lim 1048576 cy)), .int .i64 (Sp.mx (Sp.lim 1048576 ax) (Sp.lim 1048576 cx)), .int .i64 (Sp.mx (Sp.lim 1048576 ay) (Sp.lim 1048576 cy))]) (v := .agg #[.int .i64 (Sp.mn (Sp.lim 1048576 ax) (Sp.lim 1048576 cx)), .int .i64 (Sp.mn (Sp.lim 1048576 ay) (Sp.lim 1048576 cy)), .int .i64 (Sp.mx (Sp.lim 1048576 ax) (Sp.lim 1048576 cx)), .int .i64 (Sp.mx (Sp.lim 1048576 ay) (Sp.lim 1048576 cy))]) [4] (by kernel_rfl) (by kernel_rfl) (by kernel_rfl) (by kernel_rfl) ((by have h := boxof_own ([(ax, ay), (cx, cy)]) (by simp); rw [Sp.bxo2 ax ay cx cy] at h; exact h)) (.cons (.slice _ _ _ _ _ (by decide)) .nil) ⟨rfl, ⟨rfl, rfl, rfl, (.flats (flats_pair _))⟩, trivial⟩ (by kernel_rfl) (by kernel_rfl) (by kernel_rfl) ⟨rfl, ⟨rfl, rfl, rfl, (.flats (flats_pair _))⟩, trivial⟩ (.flatB (by kernel_rfl))) <|
    .p (does_c (meet_ok lx ly hx hy (Sp.mn (Sp.lim 1048576 ax) (Sp.lim 1048576 cx)) (Sp.mn (Sp.lim 1048576 ay) (Sp.lim 1048576 cy)) (Sp.mx (Sp.lim 1048576 ax) (Sp.lim 1048576 cx)) (Sp.mx (Sp.lim 1048576 ay) (Sp.lim 1048576 cy)))) <| .a 2 5 <| .nil _ _) ?_
  refine aw_cd 26 27 (!(Sp.meet lx ly hx hy (Sp.mn (Sp.lim 1048576 ax) (Sp.lim 1048576 cx)) (Sp.mn (Sp.lim 1048576 ay) (Sp.lim 1048576 cy)) (Sp.mx (Sp.lim 1048576 ax) (Sp.lim 1048576 cx)) (Sp.mx (Sp.lim 1048576 ay) (Sp.lim 1048576 cy)))) (fun h1 => ?_) (fun h1 => ?_)
  · have h1b : (Sp.meet lx ly hx hy (Sp.mn (Sp.lim 1048576 ax) (Sp.lim 1048576 cx)) (Sp.mn (Sp.lim 1048576 ay) (Sp.lim 1048576 cy)) (Sp.mx (Sp.lim 1048576 ax) (Sp.lim 1048576 cx)) (Sp.mx (Sp.lim 1048576 ay) (Sp.lim 1048576 cy))) = false := by simpa using h1
    refine aw_p 53 (
      .a 1 5 <| .nil _ _) ?_
    refine aw_rt ?_
    refine then_ret ?_
    exact en_ret [.bool false] (show (.bool false : Value) = (.bool (Sp.hitb lx ly hx hy (Sp.lim 1048576 ax) (Sp.lim 1048576 ay) (Sp.lim 1048576 cx) (Sp.lim 1048576 cy))) from (congrArg Value.bool (show false = (Sp.hitb lx ly hx hy (Sp.lim 1048576 ax) (Sp.lim 1048576 ay) (Sp.lim 1048576 cx) (Sp.lim 1048576 cy)) from by (simp [Sp.hitb, *]))))
  · have h1b : (Sp.meet lx ly hx hy (Sp.mn (Sp.lim 1048576 ax) (Sp.lim 1048576 cx)) (Sp.mn (Sp.lim 1048576 ay) (Sp.lim 1048576 cy)) (Sp.mx (Sp.lim 1048576 ax) (Sp.lim 1048576 cx)) (Sp.mx (Sp.lim 1048576 ay) (Sp.lim 1048576 cy))) = true := by simpa using h1
    refine aw_sk ?_
    refine then_normal ?_
    refine aw_d 15 (
      .a 1 5 <| .p (does_c (clamp_ok ax ay)) <| .a 1 5 <| .p (does_c (clamp_ok cx cy)) <| .a 2 5 <| .nil _ _) ?_
    refine aw_p 31 (
      .a 2 5 <| .nil _ _) ?_
    refine aw_sq 62 63 ?_
    refine aw_p 125 (
      .a 21 5 <| .nil _ _) ?_
    refine aw_bl 0 251 ?_
    refine aw_lp 503 ?_
    refine al_round ?_
    refine aw_p 1007 (
      .a 1 6 <| .nil _ _) ?_
    refine aw_sq 2014 2015 ?_
    refine aw_tr 4028 ?_
    refine aw_sk ?_
    refine then_normal ?_
    refine aw_sq 4030 4031 ?_
    refine aw_bl 1 8061 ?_
    refine aw_p 16123 (
      .a 4 6 <| .nil _ _) ?_
    refine aw_p 32247 (
      .a 3 7 <| .p (does_c (turn_in (Sp.lim 1048576 ax) (Sp.lim 1048576 ay) (Sp.lim 1048576 cx) (Sp.lim 1048576 cy) lx ly (by omega) (by omega) (by omega) (by omega) (by omega) (by omega) (by omega) (by omega) (by omega) (by omega) (by omega) (by omega))) <| .a 1 7 <| .nil _ _) ?_
    refine aw_p1 (
      .a 12 7 <| .nil _ _) ?_
    refine block_normal ?_
    refine then_normal ?_
    refine aw_p1 (
      .a 2 7 <| .nil _ _) ?_
    refine then_normal ?_
    refine al_round ?_
    refine aw_p 1007 (
      .a 1 7 <| .nil _ _) ?_
    refine aw_sq 2014 2015 ?_
    refine aw_tr 4028 ?_
    refine aw_sk ?_
    refine then_normal ?_
    refine aw_sq 4030 4031 ?_
    refine aw_bl 1 8061 ?_
    refine aw_p 16123 (
      .a 4 7 <| .nil _ _) ?_
    refine aw_p 32247 (
      .a 3 8 <| .p (does_c (turn_in (Sp.lim 1048576 ax) (Sp.lim 1048576 ay) (Sp.lim 1048576 cx) (Sp.lim 1048576 cy) hx ly (by omega) (by omega) (by omega) (by omega) (by omega) (by omega) (by omega) (by omega) (by omega) (by omega) (by omega) (by omega))) <| .a 1 8 <| .nil _ _) ?_
    rcases Bool.eq_false_or_eq_true (decide ((Sp.cmp (Sp.crs (Sp.lim 1048576 ax) (Sp.lim 1048576 ay) (Sp.lim 1048576 cx) (Sp.lim 1048576 cy) lx ly) 0) ≥ 0)) with h2 | h2
    · have h2p : (((Sp.cmp (Sp.crs (Sp.lim 1048576 ax) (Sp.lim 1048576 ay) (Sp.lim 1048576 cx) (Sp.lim 1048576 cy) lx ly) 0) ≥ 0)) := by first | (simpa using h2) | (have h2q := h2; simp at h2q; omega) | (have h2q := bx1 h2; simp at h2q; omega)
      rcases Bool.eq_false_or_eq_true (decide ((Sp.cmp (Sp.crs (Sp.lim 1048576 ax) (Sp.lim 1048576 ay) (Sp.lim 1048576 cx) (Sp.lim 1048576 cy) lx ly) 0) ≤ 0)) with h3 | h3
      · have h3p : (((Sp.cmp (Sp.crs (Sp.lim 1048576 ax) (Sp.lim 1048576 ay) (Sp.lim 1048576 cx) (Sp.lim 1048576 cy) lx ly) 0) ≤ 0)) := by first | (simpa using h3) | (have h3q := h3; simp at h3q; omega) | (have h3q := bx1 h3; simp at h3q; omega)
        refine aw_p1 (
          .p (does_b true (h2)) <| .a 4 8 <| .p (does_b true (h3)) <| .a 6 8 <| .nil _ _) ?_
        refine block_normal ?_
        refine then_normal ?_
        refine aw_p1 (
          .a 2 8 <| .nil _ _) ?_
        refine then_normal ?_
        refine al_round ?_
        refine aw_p 1007 (
          .a 1 8 <| .nil _ _) ?_
        refine aw_sq 2014 2015 ?_
        refine aw_tr 4028 ?_
        refine aw_sk ?_
        refine then_normal ?_
        refine aw_sq 4030 4031 ?_
        refine aw_bl 1 8061 ?_
        refine aw_p 16123 (
          .a 4 8 <| .nil _ _) ?_
        refine aw_p 32247 (
          .a 3 9 <| .p (does_c (turn_in (Sp.lim 1048576 ax) (Sp.lim 1048576 ay) (Sp.lim 1048576 cx) (Sp.lim 1048576 cy) hx hy (by omega) (by omega) (by omega) (by omega) (by omega) (by omega) (by omega) (by omega) (by omega) (by omega) (by omega) (by omega))) <| .a 1 9 <| .nil _ _) ?_
        refine aw_p1 (
          .a 12 9 <| .nil _ _) ?_
        refine block_normal ?_
        refine then_normal ?_
        refine aw_p1 (
          .a 2 9 <| .nil _ _) ?_
        refine then_normal ?_
        refine al_round ?_
        refine aw_p 1007 (
          .a 1 9 <| .nil _ _) ?_
        refine aw_sq 2014 2015 ?_
        refine aw_tr 4028 ?_
        refine aw_sk ?_
        refine then_normal ?_
        refine aw_sq 4030 4031 ?_
        refine aw_bl 1 8061 ?_
        refine aw_p 16123 (
          .a 4 9 <| .nil _ _) ?_
        refine aw_p 32247 (
          .a 3 10 <| .p (does_c (turn_in (Sp.lim 1048576 ax) (Sp.lim 1048576 ay) (Sp.lim 1048576 cx) (Sp.lim 1048576 cy) lx hy (by omega) (by omega) (by omega) (by omega) (by omega) (by omega) (by omega) (by omega) (by omega) (by omega) (by omega) (by omega))) <| .a 1 10 <| .nil _ _) ?_
        refine aw_p1 (
          .a 12 10 <| .nil _ _) ?_
        refine block_normal ?_
        refine then_normal ?_
        refine aw_p1 (
          .a 2 10 <| .nil _ _) ?_
        refine then_normal ?_
        refine al_round ?_
        refine aw_p 1007 (
          .a 1 10 <| .nil _ _) ?_
        refine aw_sq 2014 2015 ?_
        refine aw_fl 4029 ?_
        refine aw_ex 0 ?_
        refine then_exit ?_
        refine then_exit ?_
        refine block_exit ?_
        refine then_normal ?_
        refine aw_p 127 (
          .a 5 10 <| .nil _ _) ?_
        refine aw_rt ?_
        exact en_ret [.bool true] (show (.bool true : Value) = (.bool (Sp.hitb lx ly hx hy (Sp.lim 1048576 ax) (Sp.lim 1048576 ay) (Sp.lim 1048576 cx) (Sp.lim 1048576 cy))) from (congrArg Value.bool (show true = (Sp.hitb lx ly hx hy (Sp.lim 1048576 ax) (Sp.lim 1048576 ay) (Sp.lim 1048576 cx) (Sp.lim 1048576 cy)) from by (simp [Sp.hitb, *]))))
      · have h3p : ¬ (((Sp.cmp (Sp.crs (Sp.lim 1048576 ax) (Sp.lim 1048576 ay) (Sp.lim 1048576 cx) (Sp.lim 1048576 cy) lx ly) 0) ≤ 0)) := by first | (simpa using h3) | (have h3q := h3; simp at h3q; omega) | (have h3q := bx2 h3; simp at h3q; omega)
        refine aw_p1 (
          .p (does_b true (h2)) <| .a 4 8 <| .p (does_b false (h3)) <| .a 6 8 <| .nil _ _) ?_
        refine block_normal ?_
        refine then_normal ?_
        refine aw_p1 (
          .a 2 8 <| .nil _ _) ?_
        refine then_normal ?_
        refine al_round ?_
        refine aw_p 1007 (
          .a 1 8 <| .nil _ _) ?_
        refine aw_sq 2014 2015 ?_
        refine aw_tr 4028 ?_
        refine aw_sk ?_
        refine then_normal ?_
        refine aw_sq 4030 4031 ?_
        refine aw_bl 1 8061 ?_
        refine aw_p 16123 (
          .a 4 8 <| .nil _ _) ?_
        refine aw_p 32247 (
          .a 3 9 <| .p (does_c (turn_in (Sp.lim 1048576 ax) (Sp.lim 1048576 ay) (Sp.lim 1048576 cx) (Sp.lim 1048576 cy) hx hy (by omega) (by omega) (by omega) (by omega) (by omega) (by omega) (by omega) (by omega) (by omega) (by omega) (by omega) (by omega))) <| .a 1 9 <| .nil _ _) ?_
        rcases Bool.eq_false_or_eq_true (decide ((Sp.cmp (Sp.crs (Sp.lim 1048576 ax) (Sp.lim 1048576 ay) (Sp.lim 1048576 cx) (Sp.lim 1048576 cy) hx ly) 0) ≤ 0)) with h5 | h5
        · have h5p : (((Sp.cmp (Sp.crs (Sp.lim 1048576 ax) (Sp.lim 1048576 ay) (Sp.lim 1048576 cx) (Sp.lim 1048576 cy) hx ly) 0) ≤ 0)) := by first | (simpa using h5) | (have h5q := h5; simp at h5q; omega) | (have h5q := bx1 h5; simp at h5q; omega)
          refine aw_p1 (
            .a 5 9 <| .p (does_b true (h5)) <| .a 6 9 <| .nil _ _) ?_
          refine block_normal ?_
          refine then_normal ?_
          refine aw_p1 (
            .a 2 9 <| .nil _ _) ?_
          refine then_normal ?_
          refine al_round ?_
          refine aw_p 1007 (
            .a 1 9 <| .nil _ _) ?_
          refine aw_sq 2014 2015 ?_
          refine aw_tr 4028 ?_
          refine aw_sk ?_
          refine then_normal ?_
          refine aw_sq 4030 4031 ?_
          refine aw_bl 1 8061 ?_
          refine aw_p 16123 (
            .a 4 9 <| .nil _ _) ?_
          refine aw_p 32247 (
            .a 3 10 <| .p (does_c (turn_in (Sp.lim 1048576 ax) (Sp.lim 1048576 ay) (Sp.lim 1048576 cx) (Sp.lim 1048576 cy) lx hy (by omega) (by omega) (by omega) (by omega) (by omega) (by omega) (by omega) (by omega) (by omega) (by omega) (by omega) (by omega))) <| .a 1 10 <| .nil _ _) ?_
          refine aw_p1 (
            .a 12 10 <| .nil _ _) ?_
          refine block_normal ?_
          refine then_normal ?_
          refine aw_p1 (
            .a 2 10 <| .nil _ _) ?_
          refine then_normal ?_
          refine al_round ?_
          refine aw_p 1007 (
            .a 1 10 <| .nil _ _) ?_
          refine aw_sq 2014 2015 ?_
          refine aw_fl 4029 ?_
          refine aw_ex 0 ?_
          refine then_exit ?_
          refine then_exit ?_
          refine block_exit ?_
          refine then_normal ?_
          refine aw_p 127 (
            .a 5 10 <| .nil _ _) ?_
          refine aw_rt ?_
          exact en_ret [.bool true] (show (.bool true : Value) = (.bool (Sp.hitb lx ly hx hy (Sp.lim 1048576 ax) (Sp.lim 1048576 ay) (Sp.lim 1048576 cx) (Sp.lim 1048576 cy))) from (congrArg Value.bool (show true = (Sp.hitb lx ly hx hy (Sp.lim 1048576 ax) (Sp.lim 1048576 ay) (Sp.lim 1048576 cx) (Sp.lim 1048576 cy)) from by (simp [Sp.hitb, *]))))
        · have h5p : ¬ (((Sp.cmp (Sp.crs (Sp.lim 1048576 ax) (Sp.lim 1048576 ay) (Sp.lim 1048576 cx) (Sp.lim 1048576 cy) hx ly) 0) ≤ 0)) := by first | (simpa using h5) | (have h5q := h5; simp at h5q; omega) | (have h5q := bx2 h5; simp at h5q; omega)
          refine aw_p1 (
            .a 5 9 <| .p (does_b false (h5)) <| .a 6 9 <| .nil _ _) ?_
          refine block_normal ?_
          refine then_normal ?_
          refine aw_p1 (
            .a 2 9 <| .nil _ _) ?_
          refine then_normal ?_
          refine al_round ?_
          refine aw_p 1007 (
            .a 1 9 <| .nil _ _) ?_
          refine aw_sq 2014 2015 ?_
          refine aw_tr 4028 ?_
          refine aw_sk ?_
          refine then_normal ?_
          refine aw_sq 4030 4031 ?_
          refine aw_bl 1 8061 ?_
          refine aw_p 16123 (
            .a 4 9 <| .nil _ _) ?_
          refine aw_p 32247 (
            .a 3 10 <| .p (does_c (turn_in (Sp.lim 1048576 ax) (Sp.lim 1048576 ay) (Sp.lim 1048576 cx) (Sp.lim 1048576 cy) lx hy (by omega) (by omega) (by omega) (by omega) (by omega) (by omega) (by omega) (by omega) (by omega) (by omega) (by omega) (by omega))) <| .a 1 10 <| .nil _ _) ?_
          rcases Bool.eq_false_or_eq_true (decide ((Sp.cmp (Sp.crs (Sp.lim 1048576 ax) (Sp.lim 1048576 ay) (Sp.lim 1048576 cx) (Sp.lim 1048576 cy) hx hy) 0) ≤ 0)) with h6 | h6
          · have h6p : (((Sp.cmp (Sp.crs (Sp.lim 1048576 ax) (Sp.lim 1048576 ay) (Sp.lim 1048576 cx) (Sp.lim 1048576 cy) hx hy) 0) ≤ 0)) := by first | (simpa using h6) | (have h6q := h6; simp at h6q; omega) | (have h6q := bx1 h6; simp at h6q; omega)
            refine aw_p1 (
              .a 5 10 <| .p (does_b true (h6)) <| .a 6 10 <| .nil _ _) ?_
            refine block_normal ?_
            refine then_normal ?_
            refine aw_p1 (
              .a 2 10 <| .nil _ _) ?_
            refine then_normal ?_
            refine al_round ?_
            refine aw_p 1007 (
              .a 1 10 <| .nil _ _) ?_
            refine aw_sq 2014 2015 ?_
            refine aw_fl 4029 ?_
            refine aw_ex 0 ?_
            refine then_exit ?_
            refine then_exit ?_
            refine block_exit ?_
            refine then_normal ?_
            refine aw_p 127 (
              .a 5 10 <| .nil _ _) ?_
            refine aw_rt ?_
            exact en_ret [.bool true] (show (.bool true : Value) = (.bool (Sp.hitb lx ly hx hy (Sp.lim 1048576 ax) (Sp.lim 1048576 ay) (Sp.lim 1048576 cx) (Sp.lim 1048576 cy))) from (congrArg Value.bool (show true = (Sp.hitb lx ly hx hy (Sp.lim 1048576 ax) (Sp.lim 1048576 ay) (Sp.lim 1048576 cx) (Sp.lim 1048576 cy)) from by (simp [Sp.hitb, *]))))
          · have h6p : ¬ (((Sp.cmp (Sp.crs (Sp.lim 1048576 ax) (Sp.lim 1048576 ay) (Sp.lim 1048576 cx) (Sp.lim 1048576 cy) hx hy) 0) ≤ 0)) := by first | (simpa using h6) | (have h6q := h6; simp at h6q; omega) | (have h6q := bx2 h6; simp at h6q; omega)
            refine aw_p1 (
              .a 5 10 <| .p (does_b false (h6)) <| .a 6 10 <| .nil _ _) ?_
            refine block_normal ?_
            refine then_normal ?_
            refine aw_p1 (
              .a 2 10 <| .nil _ _) ?_
            refine then_normal ?_
            refine al_round ?_
            refine aw_p 1007 (
              .a 1 10 <| .nil _ _) ?_
            refine aw_sq 2014 2015 ?_
            refine aw_fl 4029 ?_
            refine aw_ex 0 ?_
            refine then_exit ?_
            refine then_exit ?_
            refine block_exit ?_
            refine then_normal ?_
            refine aw_p 127 (
              .a 5 10 <| .nil _ _) ?_
            refine aw_rt ?_
            exact en_ret [.bool (decide ((Sp.cmp (Sp.crs (Sp.lim 1048576 ax) (Sp.lim 1048576 ay) (Sp.lim 1048576 cx) (Sp.lim 1048576 cy) lx hy) 0) ≤ 0))] (show (.bool (decide ((Sp.cmp (Sp.crs (Sp.lim 1048576 ax) (Sp.lim 1048576 ay) (Sp.lim 1048576 cx) (Sp.lim 1048576 cy) lx hy) 0) ≤ 0)) : Value) = (.bool (Sp.hitb lx ly hx hy (Sp.lim 1048576 ax) (Sp.lim 1048576 ay) (Sp.lim 1048576 cx) (Sp.lim 1048576 cy))) from (congrArg Value.bool (show (decide ((Sp.cmp (Sp.crs (Sp.lim 1048576 ax) (Sp.lim 1048576 ay) (Sp.lim 1048576 cx) (Sp.lim 1048576 cy) lx hy) 0) ≤ 0)) = (Sp.hitb lx ly hx hy (Sp.lim 1048576 ax) (Sp.lim 1048576 ay) (Sp.lim 1048576 cx) (Sp.lim 1048576 cy)) from by (simp [Sp.hitb, *]))))
    · have h2p : ¬ (((Sp.cmp (Sp.crs (Sp.lim 1048576 ax) (Sp.lim 1048576 ay) (Sp.lim 1048576 cx) (Sp.lim 1048576 cy) lx ly) 0) ≥ 0)) := by first | (simpa using h2) | (have h2q := h2; simp at h2q; omega) | (have h2q := bx2 h2; simp at h2q; omega)
      rcases Bool.eq_false_or_eq_true (decide ((Sp.cmp (Sp.crs (Sp.lim 1048576 ax) (Sp.lim 1048576 ay) (Sp.lim 1048576 cx) (Sp.lim 1048576 cy) lx ly) 0) ≤ 0)) with h4 | h4
      · have h4p : (((Sp.cmp (Sp.crs (Sp.lim 1048576 ax) (Sp.lim 1048576 ay) (Sp.lim 1048576 cx) (Sp.lim 1048576 cy) lx ly) 0) ≤ 0)) := by first | (simpa using h4) | (have h4q := h4; simp at h4q; omega) | (have h4q := bx1 h4; simp at h4q; omega)
        refine aw_p1 (
          .p (does_b false (h2)) <| .a 4 8 <| .p (does_b true (h4)) <| .a 6 8 <| .nil _ _) ?_
        refine block_normal ?_
        refine then_normal ?_
        refine aw_p1 (
          .a 2 8 <| .nil _ _) ?_
        refine then_normal ?_
        refine al_round ?_
        refine aw_p 1007 (
          .a 1 8 <| .nil _ _) ?_
        refine aw_sq 2014 2015 ?_
        refine aw_tr 4028 ?_
        refine aw_sk ?_
        refine then_normal ?_
        refine aw_sq 4030 4031 ?_
        refine aw_bl 1 8061 ?_
        refine aw_p 16123 (
          .a 4 8 <| .nil _ _) ?_
        refine aw_p 32247 (
          .a 3 9 <| .p (does_c (turn_in (Sp.lim 1048576 ax) (Sp.lim 1048576 ay) (Sp.lim 1048576 cx) (Sp.lim 1048576 cy) hx hy (by omega) (by omega) (by omega) (by omega) (by omega) (by omega) (by omega) (by omega) (by omega) (by omega) (by omega) (by omega))) <| .a 1 9 <| .nil _ _) ?_
        rcases Bool.eq_false_or_eq_true (decide ((Sp.cmp (Sp.crs (Sp.lim 1048576 ax) (Sp.lim 1048576 ay) (Sp.lim 1048576 cx) (Sp.lim 1048576 cy) hx ly) 0) ≥ 0)) with h7 | h7
        · have h7p : (((Sp.cmp (Sp.crs (Sp.lim 1048576 ax) (Sp.lim 1048576 ay) (Sp.lim 1048576 cx) (Sp.lim 1048576 cy) hx ly) 0) ≥ 0)) := by first | (simpa using h7) | (have h7q := h7; simp at h7q; omega) | (have h7q := bx1 h7; simp at h7q; omega)
          refine aw_p1 (
            .p (does_b true (h7)) <| .a 11 9 <| .nil _ _) ?_
          refine block_normal ?_
          refine then_normal ?_
          refine aw_p1 (
            .a 2 9 <| .nil _ _) ?_
          refine then_normal ?_
          refine al_round ?_
          refine aw_p 1007 (
            .a 1 9 <| .nil _ _) ?_
          refine aw_sq 2014 2015 ?_
          refine aw_tr 4028 ?_
          refine aw_sk ?_
          refine then_normal ?_
          refine aw_sq 4030 4031 ?_
          refine aw_bl 1 8061 ?_
          refine aw_p 16123 (
            .a 4 9 <| .nil _ _) ?_
          refine aw_p 32247 (
            .a 3 10 <| .p (does_c (turn_in (Sp.lim 1048576 ax) (Sp.lim 1048576 ay) (Sp.lim 1048576 cx) (Sp.lim 1048576 cy) lx hy (by omega) (by omega) (by omega) (by omega) (by omega) (by omega) (by omega) (by omega) (by omega) (by omega) (by omega) (by omega))) <| .a 1 10 <| .nil _ _) ?_
          refine aw_p1 (
            .a 12 10 <| .nil _ _) ?_
          refine block_normal ?_
          refine then_normal ?_
          refine aw_p1 (
            .a 2 10 <| .nil _ _) ?_
          refine then_normal ?_
          refine al_round ?_
          refine aw_p 1007 (
            .a 1 10 <| .nil _ _) ?_
          refine aw_sq 2014 2015 ?_
          refine aw_fl 4029 ?_
          refine aw_ex 0 ?_
          refine then_exit ?_
          refine then_exit ?_
          refine block_exit ?_
          refine then_normal ?_
          refine aw_p 127 (
            .a 5 10 <| .nil _ _) ?_
          refine aw_rt ?_
          exact en_ret [.bool true] (show (.bool true : Value) = (.bool (Sp.hitb lx ly hx hy (Sp.lim 1048576 ax) (Sp.lim 1048576 ay) (Sp.lim 1048576 cx) (Sp.lim 1048576 cy))) from (congrArg Value.bool (show true = (Sp.hitb lx ly hx hy (Sp.lim 1048576 ax) (Sp.lim 1048576 ay) (Sp.lim 1048576 cx) (Sp.lim 1048576 cy)) from by (simp [Sp.hitb, *]))))
        · have h7p : ¬ (((Sp.cmp (Sp.crs (Sp.lim 1048576 ax) (Sp.lim 1048576 ay) (Sp.lim 1048576 cx) (Sp.lim 1048576 cy) hx ly) 0) ≥ 0)) := by first | (simpa using h7) | (have h7q := h7; simp at h7q; omega) | (have h7q := bx2 h7; simp at h7q; omega)
          refine aw_p1 (
            .p (does_b false (h7)) <| .a 11 9 <| .nil _ _) ?_
          refine block_normal ?_
          refine then_normal ?_
          refine aw_p1 (
            .a 2 9 <| .nil _ _) ?_
          refine then_normal ?_
          refine al_round ?_
          refine aw_p 1007 (
            .a 1 9 <| .nil _ _) ?_
          refine aw_sq 2014 2015 ?_
          refine aw_tr 4028 ?_
          refine aw_sk ?_
          refine then_normal ?_
          refine aw_sq 4030 4031 ?_
          refine aw_bl 1 8061 ?_
          refine aw_p 16123 (
            .a 4 9 <| .nil _ _) ?_
          refine aw_p 32247 (
            .a 3 10 <| .p (does_c (turn_in (Sp.lim 1048576 ax) (Sp.lim 1048576 ay) (Sp.lim 1048576 cx) (Sp.lim 1048576 cy) lx hy (by omega) (by omega) (by omega) (by omega) (by omega) (by omega) (by omega) (by omega) (by omega) (by omega) (by omega) (by omega))) <| .a 1 10 <| .nil _ _) ?_
          rcases Bool.eq_false_or_eq_true (decide ((Sp.cmp (Sp.crs (Sp.lim 1048576 ax) (Sp.lim 1048576 ay) (Sp.lim 1048576 cx) (Sp.lim 1048576 cy) hx hy) 0) ≥ 0)) with h8 | h8
          · have h8p : (((Sp.cmp (Sp.crs (Sp.lim 1048576 ax) (Sp.lim 1048576 ay) (Sp.lim 1048576 cx) (Sp.lim 1048576 cy) hx hy) 0) ≥ 0)) := by first | (simpa using h8) | (have h8q := h8; simp at h8q; omega) | (have h8q := bx1 h8; simp at h8q; omega)
            refine aw_p1 (
              .p (does_b true (h8)) <| .a 11 10 <| .nil _ _) ?_
            refine block_normal ?_
            refine then_normal ?_
            refine aw_p1 (
              .a 2 10 <| .nil _ _) ?_
            refine then_normal ?_
            refine al_round ?_
            refine aw_p 1007 (
              .a 1 10 <| .nil _ _) ?_
            refine aw_sq 2014 2015 ?_
            refine aw_fl 4029 ?_
            refine aw_ex 0 ?_
            refine then_exit ?_
            refine then_exit ?_
            refine block_exit ?_
            refine then_normal ?_
            refine aw_p 127 (
              .a 5 10 <| .nil _ _) ?_
            refine aw_rt ?_
            exact en_ret [.bool true] (show (.bool true : Value) = (.bool (Sp.hitb lx ly hx hy (Sp.lim 1048576 ax) (Sp.lim 1048576 ay) (Sp.lim 1048576 cx) (Sp.lim 1048576 cy))) from (congrArg Value.bool (show true = (Sp.hitb lx ly hx hy (Sp.lim 1048576 ax) (Sp.lim 1048576 ay) (Sp.lim 1048576 cx) (Sp.lim 1048576 cy)) from by (simp [Sp.hitb, *]))))
          · have h8p : ¬ (((Sp.cmp (Sp.crs (Sp.lim 1048576 ax) (Sp.lim 1048576 ay) (Sp.lim 1048576 cx) (Sp.lim 1048576 cy) hx hy) 0) ≥ 0)) := by first | (simpa using h8) | (have h8q := h8; simp at h8q; omega) | (have h8q := bx2 h8; simp at h8q; omega)
            refine aw_p1 (
              .p (does_b false (h8)) <| .a 11 10 <| .nil _ _) ?_
            refine block_normal ?_
            refine then_normal ?_
            refine aw_p1 (
              .a 2 10 <| .nil _ _) ?_
            refine then_normal ?_
            refine al_round ?_
            refine aw_p 1007 (
              .a 1 10 <| .nil _ _) ?_
            refine aw_sq 2014 2015 ?_
            refine aw_fl 4029 ?_
            refine aw_ex 0 ?_
            refine then_exit ?_
            refine then_exit ?_
            refine block_exit ?_
            refine then_normal ?_
            rcases Bool.eq_false_or_eq_true (decide ((Sp.cmp (Sp.crs (Sp.lim 1048576 ax) (Sp.lim 1048576 ay) (Sp.lim 1048576 cx) (Sp.lim 1048576 cy) lx hy) 0) ≥ 0)) with h9 | h9
            · have h9p : (((Sp.cmp (Sp.crs (Sp.lim 1048576 ax) (Sp.lim 1048576 ay) (Sp.lim 1048576 cx) (Sp.lim 1048576 cy) lx hy) 0) ≥ 0)) := by first | (simpa using h9) | (have h9q := h9; simp at h9q; omega) | (have h9q := bx1 h9; simp at h9q; omega)
              refine aw_p 127 (
                .p (does_b true (h9)) <| .a 4 10 <| .nil _ _) ?_
              refine aw_rt ?_
              exact en_ret [.bool true] (show (.bool true : Value) = (.bool (Sp.hitb lx ly hx hy (Sp.lim 1048576 ax) (Sp.lim 1048576 ay) (Sp.lim 1048576 cx) (Sp.lim 1048576 cy))) from (congrArg Value.bool (show true = (Sp.hitb lx ly hx hy (Sp.lim 1048576 ax) (Sp.lim 1048576 ay) (Sp.lim 1048576 cx) (Sp.lim 1048576 cy)) from by (simp [Sp.hitb, *]))))
            · have h9p : ¬ (((Sp.cmp (Sp.crs (Sp.lim 1048576 ax) (Sp.lim 1048576 ay) (Sp.lim 1048576 cx) (Sp.lim 1048576 cy) lx hy) 0) ≥ 0)) := by first | (simpa using h9) | (have h9q := h9; simp at h9q; omega) | (have h9q := bx2 h9; simp at h9q; omega)
              refine aw_p 127 (
                .p (does_b false (h9)) <| .a 4 10 <| .nil _ _) ?_
              refine aw_rt ?_
              exact en_ret [.bool false] (show (.bool false : Value) = (.bool (Sp.hitb lx ly hx hy (Sp.lim 1048576 ax) (Sp.lim 1048576 ay) (Sp.lim 1048576 cx) (Sp.lim 1048576 cy))) from (congrArg Value.bool (show false = (Sp.hitb lx ly hx hy (Sp.lim 1048576 ax) (Sp.lim 1048576 ay) (Sp.lim 1048576 cx) (Sp.lim 1048576 cy)) from by (simp [Sp.hitb, *]))))
      · have h4p : ¬ (((Sp.cmp (Sp.crs (Sp.lim 1048576 ax) (Sp.lim 1048576 ay) (Sp.lim 1048576 cx) (Sp.lim 1048576 cy) lx ly) 0) ≤ 0)) := by first | (simpa using h4) | (have h4q := h4; simp at h4q; omega) | (have h4q := bx2 h4; simp at h4q; omega)
        refine aw_p1 (
          .p (does_b false (h2)) <| .a 4 8 <| .p (does_b false (h4)) <| .a 6 8 <| .nil _ _) ?_
        refine block_normal ?_
        refine then_normal ?_
        refine aw_p1 (
          .a 2 8 <| .nil _ _) ?_
        refine then_normal ?_
        refine al_round ?_
        refine aw_p 1007 (
          .a 1 8 <| .nil _ _) ?_
        refine aw_sq 2014 2015 ?_
        refine aw_tr 4028 ?_
        refine aw_sk ?_
        refine then_normal ?_
        refine aw_sq 4030 4031 ?_
        refine aw_bl 1 8061 ?_
        refine aw_p 16123 (
          .a 4 8 <| .nil _ _) ?_
        refine aw_p 32247 (
          .a 3 9 <| .p (does_c (turn_in (Sp.lim 1048576 ax) (Sp.lim 1048576 ay) (Sp.lim 1048576 cx) (Sp.lim 1048576 cy) hx hy (by omega) (by omega) (by omega) (by omega) (by omega) (by omega) (by omega) (by omega) (by omega) (by omega) (by omega) (by omega))) <| .a 1 9 <| .nil _ _) ?_
        rcases Bool.eq_false_or_eq_true (decide ((Sp.cmp (Sp.crs (Sp.lim 1048576 ax) (Sp.lim 1048576 ay) (Sp.lim 1048576 cx) (Sp.lim 1048576 cy) hx ly) 0) ≥ 0)) with h10 | h10
        · have h10p : (((Sp.cmp (Sp.crs (Sp.lim 1048576 ax) (Sp.lim 1048576 ay) (Sp.lim 1048576 cx) (Sp.lim 1048576 cy) hx ly) 0) ≥ 0)) := by first | (simpa using h10) | (have h10q := h10; simp at h10q; omega) | (have h10q := bx1 h10; simp at h10q; omega)
          rcases Bool.eq_false_or_eq_true (decide ((Sp.cmp (Sp.crs (Sp.lim 1048576 ax) (Sp.lim 1048576 ay) (Sp.lim 1048576 cx) (Sp.lim 1048576 cy) hx ly) 0) ≤ 0)) with h11 | h11
          · have h11p : (((Sp.cmp (Sp.crs (Sp.lim 1048576 ax) (Sp.lim 1048576 ay) (Sp.lim 1048576 cx) (Sp.lim 1048576 cy) hx ly) 0) ≤ 0)) := by first | (simpa using h11) | (have h11q := h11; simp at h11q; omega) | (have h11q := bx1 h11; simp at h11q; omega)
            refine aw_p1 (
              .p (does_b true (h10)) <| .a 4 9 <| .p (does_b true (h11)) <| .a 6 9 <| .nil _ _) ?_
            refine block_normal ?_
            refine then_normal ?_
            refine aw_p1 (
              .a 2 9 <| .nil _ _) ?_
            refine then_normal ?_
            refine al_round ?_
            refine aw_p 1007 (
              .a 1 9 <| .nil _ _) ?_
            refine aw_sq 2014 2015 ?_
            refine aw_tr 4028 ?_
            refine aw_sk ?_
            refine then_normal ?_
            refine aw_sq 4030 4031 ?_
            refine aw_bl 1 8061 ?_
            refine aw_p 16123 (
              .a 4 9 <| .nil _ _) ?_
            refine aw_p 32247 (
              .a 3 10 <| .p (does_c (turn_in (Sp.lim 1048576 ax) (Sp.lim 1048576 ay) (Sp.lim 1048576 cx) (Sp.lim 1048576 cy) lx hy (by omega) (by omega) (by omega) (by omega) (by omega) (by omega) (by omega) (by omega) (by omega) (by omega) (by omega) (by omega))) <| .a 1 10 <| .nil _ _) ?_
            refine aw_p1 (
              .a 12 10 <| .nil _ _) ?_
            refine block_normal ?_
            refine then_normal ?_
            refine aw_p1 (
              .a 2 10 <| .nil _ _) ?_
            refine then_normal ?_
            refine al_round ?_
            refine aw_p 1007 (
              .a 1 10 <| .nil _ _) ?_
            refine aw_sq 2014 2015 ?_
            refine aw_fl 4029 ?_
            refine aw_ex 0 ?_
            refine then_exit ?_
            refine then_exit ?_
            refine block_exit ?_
            refine then_normal ?_
            refine aw_p 127 (
              .a 5 10 <| .nil _ _) ?_
            refine aw_rt ?_
            exact en_ret [.bool true] (show (.bool true : Value) = (.bool (Sp.hitb lx ly hx hy (Sp.lim 1048576 ax) (Sp.lim 1048576 ay) (Sp.lim 1048576 cx) (Sp.lim 1048576 cy))) from (congrArg Value.bool (show true = (Sp.hitb lx ly hx hy (Sp.lim 1048576 ax) (Sp.lim 1048576 ay) (Sp.lim 1048576 cx) (Sp.lim 1048576 cy)) from by (simp [Sp.hitb, *]))))
          · have h11p : ¬ (((Sp.cmp (Sp.crs (Sp.lim 1048576 ax) (Sp.lim 1048576 ay) (Sp.lim 1048576 cx) (Sp.lim 1048576 cy) hx ly) 0) ≤ 0)) := by first | (simpa using h11) | (have h11q := h11; simp at h11q; omega) | (have h11q := bx2 h11; simp at h11q; omega)
            refine aw_p1 (
              .p (does_b true (h10)) <| .a 4 9 <| .p (does_b false (h11)) <| .a 6 9 <| .nil _ _) ?_
            refine block_normal ?_
            refine then_normal ?_
            refine aw_p1 (
              .a 2 9 <| .nil _ _) ?_
            refine then_normal ?_
            refine al_round ?_
            refine aw_p 1007 (
              .a 1 9 <| .nil _ _) ?_
            refine aw_sq 2014 2015 ?_
            refine aw_tr 4028 ?_
            refine aw_sk ?_
            refine then_normal ?_
            refine aw_sq 4030 4031 ?_
            refine aw_bl 1 8061 ?_
            refine aw_p 16123 (
              .a 4 9 <| .nil _ _) ?_
            refine aw_p 32247 (
              .a 3 10 <| .p (does_c (turn_in (Sp.lim 1048576 ax) (Sp.lim 1048576 ay) (Sp.lim 1048576 cx) (Sp.lim 1048576 cy) lx hy (by omega) (by omega) (by omega) (by omega) (by omega) (by omega) (by omega) (by omega) (by omega) (by omega) (by omega) (by omega))) <| .a 1 10 <| .nil _ _) ?_
            rcases Bool.eq_false_or_eq_true (decide ((Sp.cmp (Sp.crs (Sp.lim 1048576 ax) (Sp.lim 1048576 ay) (Sp.lim 1048576 cx) (Sp.lim 1048576 cy) hx hy) 0) ≤ 0)) with h13 | h13
            · have h13p : (((Sp.cmp (Sp.crs (Sp.lim 1048576 ax) (Sp.lim 1048576 ay) (Sp.lim 1048576 cx) (Sp.lim 1048576 cy) hx hy) 0) ≤ 0)) := by first | (simpa using h13) | (have h13q := h13; simp at h13q; omega) | (have h13q := bx1 h13; simp at h13q; omega)
              refine aw_p1 (
                .a 5 10 <| .p (does_b true (h13)) <| .a 6 10 <| .nil _ _) ?_
              refine block_normal ?_
              refine then_normal ?_
              refine aw_p1 (
                .a 2 10 <| .nil _ _) ?_
              refine then_normal ?_
              refine al_round ?_
              refine aw_p 1007 (
                .a 1 10 <| .nil _ _) ?_
              refine aw_sq 2014 2015 ?_
              refine aw_fl 4029 ?_
              refine aw_ex 0 ?_
              refine then_exit ?_
              refine then_exit ?_
              refine block_exit ?_
              refine then_normal ?_
              refine aw_p 127 (
                .a 5 10 <| .nil _ _) ?_
              refine aw_rt ?_
              exact en_ret [.bool true] (show (.bool true : Value) = (.bool (Sp.hitb lx ly hx hy (Sp.lim 1048576 ax) (Sp.lim 1048576 ay) (Sp.lim 1048576 cx) (Sp.lim 1048576 cy))) from (congrArg Value.bool (show true = (Sp.hitb lx ly hx hy (Sp.lim 1048576 ax) (Sp.lim 1048576 ay) (Sp.lim 1048576 cx) (Sp.lim 1048576 cy)) from by (simp [Sp.hitb, *]))))
            · have h13p : ¬ (((Sp.cmp (Sp.crs (Sp.lim 1048576 ax) (Sp.lim 1048576 ay) (Sp.lim 1048576 cx) (Sp.lim 1048576 cy) hx hy) 0) ≤ 0)) := by first | (simpa using h13) | (have h13q := h13; simp at h13q; omega) | (have h13q := bx2 h13; simp at h13q; omega)
              refine aw_p1 (
                .a 5 10 <| .p (does_b false (h13)) <| .a 6 10 <| .nil _ _) ?_
              refine block_normal ?_
              refine then_normal ?_
              refine aw_p1 (
                .a 2 10 <| .nil _ _) ?_
              refine then_normal ?_
              refine al_round ?_
              refine aw_p 1007 (
                .a 1 10 <| .nil _ _) ?_
              refine aw_sq 2014 2015 ?_
              refine aw_fl 4029 ?_
              refine aw_ex 0 ?_
              refine then_exit ?_
              refine then_exit ?_
              refine block_exit ?_
              refine then_normal ?_
              refine aw_p 127 (
                .a 5 10 <| .nil _ _) ?_
              refine aw_rt ?_
              exact en_ret [.bool (decide ((Sp.cmp (Sp.crs (Sp.lim 1048576 ax) (Sp.lim 1048576 ay) (Sp.lim 1048576 cx) (Sp.lim 1048576 cy) lx hy) 0) ≤ 0))] (show (.bool (decide ((Sp.cmp (Sp.crs (Sp.lim 1048576 ax) (Sp.lim 1048576 ay) (Sp.lim 1048576 cx) (Sp.lim 1048576 cy) lx hy) 0) ≤ 0)) : Value) = (.bool (Sp.hitb lx ly hx hy (Sp.lim 1048576 ax) (Sp.lim 1048576 ay) (Sp.lim 1048576 cx) (Sp.lim 1048576 cy))) from (congrArg Value.bool (show (decide ((Sp.cmp (Sp.crs (Sp.lim 1048576 ax) (Sp.lim 1048576 ay) (Sp.lim 1048576 cx) (Sp.lim 1048576 cy) lx hy) 0) ≤ 0)) = (Sp.hitb lx ly hx hy (Sp.lim 1048576 ax) (Sp.lim 1048576 ay) (Sp.lim 1048576 cx) (Sp.lim 1048576 cy)) from by (simp [Sp.hitb, *]))))
        · have h10p : ¬ (((Sp.cmp (Sp.crs (Sp.lim 1048576 ax) (Sp.lim 1048576 ay) (Sp.lim 1048576 cx) (Sp.lim 1048576 cy) hx ly) 0) ≥ 0)) := by first | (simpa using h10) | (have h10q := h10; simp at h10q; omega) | (have h10q := bx2 h10; simp at h10q; omega)
          rcases Bool.eq_false_or_eq_true (decide ((Sp.cmp (Sp.crs (Sp.lim 1048576 ax) (Sp.lim 1048576 ay) (Sp.lim 1048576 cx) (Sp.lim 1048576 cy) hx ly) 0) ≤ 0)) with h12 | h12
          · have h12p : (((Sp.cmp (Sp.crs (Sp.lim 1048576 ax) (Sp.lim 1048576 ay) (Sp.lim 1048576 cx) (Sp.lim 1048576 cy) hx ly) 0) ≤ 0)) := by first | (simpa using h12) | (have h12q := h12; simp at h12q; omega) | (have h12q := bx1 h12; simp at h12q; omega)
            refine aw_p1 (
              .p (does_b false (h10)) <| .a 4 9 <| .p (does_b true (h12)) <| .a 6 9 <| .nil _ _) ?_
            refine block_normal ?_
            refine then_normal ?_
            refine aw_p1 (
              .a 2 9 <| .nil _ _) ?_
            refine then_normal ?_
            refine al_round ?_
            refine aw_p 1007 (
              .a 1 9 <| .nil _ _) ?_
            refine aw_sq 2014 2015 ?_
            refine aw_tr 4028 ?_
            refine aw_sk ?_
            refine then_normal ?_
            refine aw_sq 4030 4031 ?_
            refine aw_bl 1 8061 ?_
            refine aw_p 16123 (
              .a 4 9 <| .nil _ _) ?_
            refine aw_p 32247 (
              .a 3 10 <| .p (does_c (turn_in (Sp.lim 1048576 ax) (Sp.lim 1048576 ay) (Sp.lim 1048576 cx) (Sp.lim 1048576 cy) lx hy (by omega) (by omega) (by omega) (by omega) (by omega) (by omega) (by omega) (by omega) (by omega) (by omega) (by omega) (by omega))) <| .a 1 10 <| .nil _ _) ?_
            rcases Bool.eq_false_or_eq_true (decide ((Sp.cmp (Sp.crs (Sp.lim 1048576 ax) (Sp.lim 1048576 ay) (Sp.lim 1048576 cx) (Sp.lim 1048576 cy) hx hy) 0) ≥ 0)) with h14 | h14
            · have h14p : (((Sp.cmp (Sp.crs (Sp.lim 1048576 ax) (Sp.lim 1048576 ay) (Sp.lim 1048576 cx) (Sp.lim 1048576 cy) hx hy) 0) ≥ 0)) := by first | (simpa using h14) | (have h14q := h14; simp at h14q; omega) | (have h14q := bx1 h14; simp at h14q; omega)
              refine aw_p1 (
                .p (does_b true (h14)) <| .a 11 10 <| .nil _ _) ?_
              refine block_normal ?_
              refine then_normal ?_
              refine aw_p1 (
                .a 2 10 <| .nil _ _) ?_
              refine then_normal ?_
              refine al_round ?_
              refine aw_p 1007 (
                .a 1 10 <| .nil _ _) ?_
              refine aw_sq 2014 2015 ?_
              refine aw_fl 4029 ?_
              refine aw_ex 0 ?_
              refine then_exit ?_
              refine then_exit ?_
              refine block_exit ?_
              refine then_normal ?_
              refine aw_p 127 (
                .a 5 10 <| .nil _ _) ?_
              refine aw_rt ?_
              exact en_ret [.bool true] (show (.bool true : Value) = (.bool (Sp.hitb lx ly hx hy (Sp.lim 1048576 ax) (Sp.lim 1048576 ay) (Sp.lim 1048576 cx) (Sp.lim 1048576 cy))) from (congrArg Value.bool (show true = (Sp.hitb lx ly hx hy (Sp.lim 1048576 ax) (Sp.lim 1048576 ay) (Sp.lim 1048576 cx) (Sp.lim 1048576 cy)) from by (simp [Sp.hitb, *]))))
            · have h14p : ¬ (((Sp.cmp (Sp.crs (Sp.lim 1048576 ax) (Sp.lim 1048576 ay) (Sp.lim 1048576 cx) (Sp.lim 1048576 cy) hx hy) 0) ≥ 0)) := by first | (simpa using h14) | (have h14q := h14; simp at h14q; omega) | (have h14q := bx2 h14; simp at h14q; omega)
              refine aw_p1 (
                .p (does_b false (h14)) <| .a 11 10 <| .nil _ _) ?_
              refine block_normal ?_
              refine then_normal ?_
              refine aw_p1 (
                .a 2 10 <| .nil _ _) ?_
              refine then_normal ?_
              refine al_round ?_
              refine aw_p 1007 (
                .a 1 10 <| .nil _ _) ?_
              refine aw_sq 2014 2015 ?_
              refine aw_fl 4029 ?_
              refine aw_ex 0 ?_
              refine then_exit ?_
              refine then_exit ?_
              refine block_exit ?_
              refine then_normal ?_
              rcases Bool.eq_false_or_eq_true (decide ((Sp.cmp (Sp.crs (Sp.lim 1048576 ax) (Sp.lim 1048576 ay) (Sp.lim 1048576 cx) (Sp.lim 1048576 cy) lx hy) 0) ≥ 0)) with h15 | h15
              · have h15p : (((Sp.cmp (Sp.crs (Sp.lim 1048576 ax) (Sp.lim 1048576 ay) (Sp.lim 1048576 cx) (Sp.lim 1048576 cy) lx hy) 0) ≥ 0)) := by first | (simpa using h15) | (have h15q := h15; simp at h15q; omega) | (have h15q := bx1 h15; simp at h15q; omega)
                refine aw_p 127 (
                  .p (does_b true (h15)) <| .a 4 10 <| .nil _ _) ?_
                refine aw_rt ?_
                exact en_ret [.bool true] (show (.bool true : Value) = (.bool (Sp.hitb lx ly hx hy (Sp.lim 1048576 ax) (Sp.lim 1048576 ay) (Sp.lim 1048576 cx) (Sp.lim 1048576 cy))) from (congrArg Value.bool (show true = (Sp.hitb lx ly hx hy (Sp.lim 1048576 ax) (Sp.lim 1048576 ay) (Sp.lim 1048576 cx) (Sp.lim 1048576 cy)) from by (simp [Sp.hitb, *]))))
              · have h15p : ¬ (((Sp.cmp (Sp.crs (Sp.lim 1048576 ax) (Sp.lim 1048576 ay) (Sp.lim 1048576 cx) (Sp.lim 1048576 cy) lx hy) 0) ≥ 0)) := by first | (simpa using h15) | (have h15q := h15; simp at h15q; omega) | (have h15q := bx2 h15; simp at h15q; omega)
                refine aw_p 127 (
                  .p (does_b false (h15)) <| .a 4 10 <| .nil _ _) ?_
                refine aw_rt ?_
                exact en_ret [.bool false] (show (.bool false : Value) = (.bool (Sp.hitb lx ly hx hy (Sp.lim 1048576 ax) (Sp.lim 1048576 ay) (Sp.lim 1048576 cx) (Sp.lim 1048576 cy))) from (congrArg Value.bool (show false = (Sp.hitb lx ly hx hy (Sp.lim 1048576 ax) (Sp.lim 1048576 ay) (Sp.lim 1048576 cx) (Sp.lim 1048576 cy)) from by (simp [Sp.hitb, *]))))
          · have h12p : ¬ (((Sp.cmp (Sp.crs (Sp.lim 1048576 ax) (Sp.lim 1048576 ay) (Sp.lim 1048576 cx) (Sp.lim 1048576 cy) hx ly) 0) ≤ 0)) := by first | (simpa using h12) | (have h12q := h12; simp at h12q; omega) | (have h12q := bx2 h12; simp at h12q; omega)
            refine aw_p1 (
              .p (does_b false (h10)) <| .a 4 9 <| .p (does_b false (h12)) <| .a 6 9 <| .nil _ _) ?_
            refine block_normal ?_
            refine then_normal ?_
            refine aw_p1 (
              .a 2 9 <| .nil _ _) ?_
            refine then_normal ?_
            refine al_round ?_
            refine aw_p 1007 (
              .a 1 9 <| .nil _ _) ?_
            refine aw_sq 2014 2015 ?_
            refine aw_tr 4028 ?_
            refine aw_sk ?_
            refine then_normal ?_
            refine aw_sq 4030 4031 ?_
            refine aw_bl 1 8061 ?_
            refine aw_p 16123 (
              .a 4 9 <| .nil _ _) ?_
            refine aw_p 32247 (
              .a 3 10 <| .p (does_c (turn_in (Sp.lim 1048576 ax) (Sp.lim 1048576 ay) (Sp.lim 1048576 cx) (Sp.lim 1048576 cy) lx hy (by omega) (by omega) (by omega) (by omega) (by omega) (by omega) (by omega) (by omega) (by omega) (by omega) (by omega) (by omega))) <| .a 1 10 <| .nil _ _) ?_
            rcases Bool.eq_false_or_eq_true (decide ((Sp.cmp (Sp.crs (Sp.lim 1048576 ax) (Sp.lim 1048576 ay) (Sp.lim 1048576 cx) (Sp.lim 1048576 cy) hx hy) 0) ≥ 0)) with h16 | h16
            · have h16p : (((Sp.cmp (Sp.crs (Sp.lim 1048576 ax) (Sp.lim 1048576 ay) (Sp.lim 1048576 cx) (Sp.lim 1048576 cy) hx hy) 0) ≥ 0)) := by first | (simpa using h16) | (have h16q := h16; simp at h16q; omega) | (have h16q := bx1 h16; simp at h16q; omega)
              rcases Bool.eq_false_or_eq_true (decide ((Sp.cmp (Sp.crs (Sp.lim 1048576 ax) (Sp.lim 1048576 ay) (Sp.lim 1048576 cx) (Sp.lim 1048576 cy) hx hy) 0) ≤ 0)) with h17 | h17
              · have h17p : (((Sp.cmp (Sp.crs (Sp.lim 1048576 ax) (Sp.lim 1048576 ay) (Sp.lim 1048576 cx) (Sp.lim 1048576 cy) hx hy) 0) ≤ 0)) := by first | (simpa using h17) | (have h17q := h17; simp at h17q; omega) | (have h17q := bx1 h17; simp at h17q; omega)
                refine aw_p1 (
                  .p (does_b true (h16)) <| .a 4 10 <| .p (does_b true (h17)) <| .a 6 10 <| .nil _ _) ?_
                refine block_normal ?_
                refine then_normal ?_
                refine aw_p1 (
                  .a 2 10 <| .nil _ _) ?_
                refine then_normal ?_
                refine al_round ?_
                refine aw_p 1007 (
                  .a 1 10 <| .nil _ _) ?_
                refine aw_sq 2014 2015 ?_
                refine aw_fl 4029 ?_
                refine aw_ex 0 ?_
                refine then_exit ?_
                refine then_exit ?_
                refine block_exit ?_
                refine then_normal ?_
                refine aw_p 127 (
                  .a 5 10 <| .nil _ _) ?_
                refine aw_rt ?_
                exact en_ret [.bool true] (show (.bool true : Value) = (.bool (Sp.hitb lx ly hx hy (Sp.lim 1048576 ax) (Sp.lim 1048576 ay) (Sp.lim 1048576 cx) (Sp.lim 1048576 cy))) from (congrArg Value.bool (show true = (Sp.hitb lx ly hx hy (Sp.lim 1048576 ax) (Sp.lim 1048576 ay) (Sp.lim 1048576 cx) (Sp.lim 1048576 cy)) from by (simp [Sp.hitb, *]))))
              · have h17p : ¬ (((Sp.cmp (Sp.crs (Sp.lim 1048576 ax) (Sp.lim 1048576 ay) (Sp.lim 1048576 cx) (Sp.lim 1048576 cy) hx hy) 0) ≤ 0)) := by first | (simpa using h17) | (have h17q := h17; simp at h17q; omega) | (have h17q := bx2 h17; simp at h17q; omega)
                refine aw_p1 (
                  .p (does_b true (h16)) <| .a 4 10 <| .p (does_b false (h17)) <| .a 6 10 <| .nil _ _) ?_
                refine block_normal ?_
                refine then_normal ?_
                refine aw_p1 (
                  .a 2 10 <| .nil _ _) ?_
                refine then_normal ?_
                refine al_round ?_
                refine aw_p 1007 (
                  .a 1 10 <| .nil _ _) ?_
                refine aw_sq 2014 2015 ?_
                refine aw_fl 4029 ?_
                refine aw_ex 0 ?_
                refine then_exit ?_
                refine then_exit ?_
                refine block_exit ?_
                refine then_normal ?_
                refine aw_p 127 (
                  .a 5 10 <| .nil _ _) ?_
                refine aw_rt ?_
                exact en_ret [.bool (decide ((Sp.cmp (Sp.crs (Sp.lim 1048576 ax) (Sp.lim 1048576 ay) (Sp.lim 1048576 cx) (Sp.lim 1048576 cy) lx hy) 0) ≤ 0))] (show (.bool (decide ((Sp.cmp (Sp.crs (Sp.lim 1048576 ax) (Sp.lim 1048576 ay) (Sp.lim 1048576 cx) (Sp.lim 1048576 cy) lx hy) 0) ≤ 0)) : Value) = (.bool (Sp.hitb lx ly hx hy (Sp.lim 1048576 ax) (Sp.lim 1048576 ay) (Sp.lim 1048576 cx) (Sp.lim 1048576 cy))) from (congrArg Value.bool (show (decide ((Sp.cmp (Sp.crs (Sp.lim 1048576 ax) (Sp.lim 1048576 ay) (Sp.lim 1048576 cx) (Sp.lim 1048576 cy) lx hy) 0) ≤ 0)) = (Sp.hitb lx ly hx hy (Sp.lim 1048576 ax) (Sp.lim 1048576 ay) (Sp.lim 1048576 cx) (Sp.lim 1048576 cy)) from by (simp [Sp.hitb, *]))))
            · have h16p : ¬ (((Sp.cmp (Sp.crs (Sp.lim 1048576 ax) (Sp.lim 1048576 ay) (Sp.lim 1048576 cx) (Sp.lim 1048576 cy) hx hy) 0) ≥ 0)) := by first | (simpa using h16) | (have h16q := h16; simp at h16q; omega) | (have h16q := bx2 h16; simp at h16q; omega)
              rcases Bool.eq_false_or_eq_true (decide ((Sp.cmp (Sp.crs (Sp.lim 1048576 ax) (Sp.lim 1048576 ay) (Sp.lim 1048576 cx) (Sp.lim 1048576 cy) hx hy) 0) ≤ 0)) with h18 | h18
              · have h18p : (((Sp.cmp (Sp.crs (Sp.lim 1048576 ax) (Sp.lim 1048576 ay) (Sp.lim 1048576 cx) (Sp.lim 1048576 cy) hx hy) 0) ≤ 0)) := by first | (simpa using h18) | (have h18q := h18; simp at h18q; omega) | (have h18q := bx1 h18; simp at h18q; omega)
                refine aw_p1 (
                  .p (does_b false (h16)) <| .a 4 10 <| .p (does_b true (h18)) <| .a 6 10 <| .nil _ _) ?_
                refine block_normal ?_
                refine then_normal ?_
                refine aw_p1 (
                  .a 2 10 <| .nil _ _) ?_
                refine then_normal ?_
                refine al_round ?_
                refine aw_p 1007 (
                  .a 1 10 <| .nil _ _) ?_
                refine aw_sq 2014 2015 ?_
                refine aw_fl 4029 ?_
                refine aw_ex 0 ?_
                refine then_exit ?_
                refine then_exit ?_
                refine block_exit ?_
                refine then_normal ?_
                rcases Bool.eq_false_or_eq_true (decide ((Sp.cmp (Sp.crs (Sp.lim 1048576 ax) (Sp.lim 1048576 ay) (Sp.lim 1048576 cx) (Sp.lim 1048576 cy) lx hy) 0) ≥ 0)) with h19 | h19
                · have h19p : (((Sp.cmp (Sp.crs (Sp.lim 1048576 ax) (Sp.lim 1048576 ay) (Sp.lim 1048576 cx) (Sp.lim 1048576 cy) lx hy) 0) ≥ 0)) := by first | (simpa using h19) | (have h19q := h19; simp at h19q; omega) | (have h19q := bx1 h19; simp at h19q; omega)
                  refine aw_p 127 (
                    .p (does_b true (h19)) <| .a 4 10 <| .nil _ _) ?_
                  refine aw_rt ?_
                  exact en_ret [.bool true] (show (.bool true : Value) = (.bool (Sp.hitb lx ly hx hy (Sp.lim 1048576 ax) (Sp.lim 1048576 ay) (Sp.lim 1048576 cx) (Sp.lim 1048576 cy))) from (congrArg Value.bool (show true = (Sp.hitb lx ly hx hy (Sp.lim 1048576 ax) (Sp.lim 1048576 ay) (Sp.lim 1048576 cx) (Sp.lim 1048576 cy)) from by (simp [Sp.hitb, *]))))
                · have h19p : ¬ (((Sp.cmp (Sp.crs (Sp.lim 1048576 ax) (Sp.lim 1048576 ay) (Sp.lim 1048576 cx) (Sp.lim 1048576 cy) lx hy) 0) ≥ 0)) := by first | (simpa using h19) | (have h19q := h19; simp at h19q; omega) | (have h19q := bx2 h19; simp at h19q; omega)
                  refine aw_p 127 (
                    .p (does_b false (h19)) <| .a 4 10 <| .nil _ _) ?_
                  refine aw_rt ?_
                  exact en_ret [.bool false] (show (.bool false : Value) = (.bool (Sp.hitb lx ly hx hy (Sp.lim 1048576 ax) (Sp.lim 1048576 ay) (Sp.lim 1048576 cx) (Sp.lim 1048576 cy))) from (congrArg Value.bool (show false = (Sp.hitb lx ly hx hy (Sp.lim 1048576 ax) (Sp.lim 1048576 ay) (Sp.lim 1048576 cx) (Sp.lim 1048576 cy)) from by (simp [Sp.hitb, *]))))
              · have h18p : ¬ (((Sp.cmp (Sp.crs (Sp.lim 1048576 ax) (Sp.lim 1048576 ay) (Sp.lim 1048576 cx) (Sp.lim 1048576 cy) hx hy) 0) ≤ 0)) := by first | (simpa using h18) | (have h18q := h18; simp at h18q; omega) | (have h18q := bx2 h18; simp at h18q; omega)
                refine aw_p1 (
                  .p (does_b false (h16)) <| .a 4 10 <| .p (does_b false (h18)) <| .a 6 10 <| .nil _ _) ?_
                refine block_normal ?_
                refine then_normal ?_
                refine aw_p1 (
                  .a 2 10 <| .nil _ _) ?_
                refine then_normal ?_
                refine al_round ?_
                refine aw_p 1007 (
                  .a 1 10 <| .nil _ _) ?_
                refine aw_sq 2014 2015 ?_
                refine aw_fl 4029 ?_
                refine aw_ex 0 ?_
                refine then_exit ?_
                refine then_exit ?_
                refine block_exit ?_
                refine then_normal ?_
                rcases Bool.eq_false_or_eq_true (decide ((Sp.cmp (Sp.crs (Sp.lim 1048576 ax) (Sp.lim 1048576 ay) (Sp.lim 1048576 cx) (Sp.lim 1048576 cy) lx hy) 0) ≥ 0)) with h20 | h20
                · have h20p : (((Sp.cmp (Sp.crs (Sp.lim 1048576 ax) (Sp.lim 1048576 ay) (Sp.lim 1048576 cx) (Sp.lim 1048576 cy) lx hy) 0) ≥ 0)) := by first | (simpa using h20) | (have h20q := h20; simp at h20q; omega) | (have h20q := bx1 h20; simp at h20q; omega)
                  refine aw_p 127 (
                    .p (does_b true (h20)) <| .a 4 10 <| .nil _ _) ?_
                  refine aw_rt ?_
                  exact en_ret [.bool (decide ((Sp.cmp (Sp.crs (Sp.lim 1048576 ax) (Sp.lim 1048576 ay) (Sp.lim 1048576 cx) (Sp.lim 1048576 cy) lx hy) 0) ≤ 0))] (show (.bool (decide ((Sp.cmp (Sp.crs (Sp.lim 1048576 ax) (Sp.lim 1048576 ay) (Sp.lim 1048576 cx) (Sp.lim 1048576 cy) lx hy) 0) ≤ 0)) : Value) = (.bool (Sp.hitb lx ly hx hy (Sp.lim 1048576 ax) (Sp.lim 1048576 ay) (Sp.lim 1048576 cx) (Sp.lim 1048576 cy))) from (congrArg Value.bool (show (decide ((Sp.cmp (Sp.crs (Sp.lim 1048576 ax) (Sp.lim 1048576 ay) (Sp.lim 1048576 cx) (Sp.lim 1048576 cy) lx hy) 0) ≤ 0)) = (Sp.hitb lx ly hx hy (Sp.lim 1048576 ax) (Sp.lim 1048576 ay) (Sp.lim 1048576 cx) (Sp.lim 1048576 cy)) from by (simp [Sp.hitb, *]))))
                · have h20p : ¬ (((Sp.cmp (Sp.crs (Sp.lim 1048576 ax) (Sp.lim 1048576 ay) (Sp.lim 1048576 cx) (Sp.lim 1048576 cy) lx hy) 0) ≥ 0)) := by first | (simpa using h20) | (have h20q := h20; simp at h20q; omega) | (have h20q := bx2 h20; simp at h20q; omega)
                  refine aw_p 127 (
                    .p (does_b false (h20)) <| .a 4 10 <| .nil _ _) ?_
                  refine aw_rt ?_
                  exact en_ret [.bool false] (show (.bool false : Value) = (.bool (Sp.hitb lx ly hx hy (Sp.lim 1048576 ax) (Sp.lim 1048576 ay) (Sp.lim 1048576 cx) (Sp.lim 1048576 cy))) from (congrArg Value.bool (show false = (Sp.hitb lx ly hx hy (Sp.lim 1048576 ax) (Sp.lim 1048576 ay) (Sp.lim 1048576 cx) (Sp.lim 1048576 cy)) from by (simp [Sp.hitb, *]))))

theorem gap_ok (lx ly hx hy ax ay : Int) (h : Sp.bok lx ly hx hy = true) (k : ((ax == (Sp.lim 1048576 ax)) && ((ay == (Sp.lim 1048576 ay)) && true)) = true) :
    AC Try.prog 17 0 ([.agg #[.int .i64 lx, .int .i64 ly, .int .i64 hx, .int .i64 hy], .agg #[.int .i64 ax, .int .i64 ay]]) [] (.tuple #[.int .i64 (Sp.gapN lx ly hx hy ax ay), .int .i64 0]) [] := by
  have bb := Sp.bok_bd h; have ob := Sp.okb_bd (x := ax) (y := ay) k; have gx := Sp.gapq_bd (l := lx) (h := hx) (a := ax) (by omega) (by omega) (by omega) (by omega) (by omega) (by omega); have gy := Sp.gapq_bd (l := ly) (h := hy) (a := ay) (by omega) (by omega) (by omega) (by omega) (by omega) (by omega); unfold Sp.gapq at gx gy
  refine ac_in Try.func17 (fun w0 W pin => ?_)
  refine aw_p 3 (
    .a 4 1 <| .nil _ _) ?_
  refine aw_sq 6 7 ?_
  refine aw_p 13 (
    .a 1 3 <| .p (does_c ((by have q := bok_ok lx ly hx hy; rw [h] at q; exact q))) <| .a 3 3 <| .p (does_c ((by have q := pok_ok ax ay; rw [k] at q; exact q))) <| .a 2 3 <| .nil _ _) ?_
  refine aw_fl 27 ?_
  refine aw_sk ?_
  refine then_normal ?_
  refine aw_p 15 (
    .a 23 3 <| .nil _ _) ?_
  refine aw_p 31 (
    .a 2 4 <| .p (does_c (sq_in ax ay (Sp.mx lx (Sp.mn ax hx)) (Sp.mx ly (Sp.mn ay hy)) (by omega) (by omega) (by omega) (by omega) (by omega) (by omega) (by omega) (by omega))) <| .a 2 4 <| .nil _ _) ?_
  refine aw_rt ?_
  exact en_ret [.int .i64 (Sp.dot ax ay (Sp.mx lx (Sp.mn ax hx)) (Sp.mx ly (Sp.mn ay hy)) (Sp.mx lx (Sp.mn ax hx)) (Sp.mx ly (Sp.mn ay hy))), .int .i64 0] (show (.tuple #[.int .i64 (Sp.dot ax ay (Sp.mx lx (Sp.mn ax hx)) (Sp.mx ly (Sp.mn ay hy)) (Sp.mx lx (Sp.mn ax hx)) (Sp.mx ly (Sp.mn ay hy))), .int .i64 0] : Value) = (.tuple #[.int .i64 (Sp.gapN lx ly hx hy ax ay), .int .i64 0]) from (congrArg (fun z : List Value => Value.tuple z.toArray) (lcons (congrArg (Value.int .i64) (show (Sp.dot ax ay (Sp.mx lx (Sp.mn ax hx)) (Sp.mx ly (Sp.mn ay hy)) (Sp.mx lx (Sp.mn ax hx)) (Sp.mx ly (Sp.mn ay hy))) = (Sp.gapN lx ly hx hy ax ay) from by rfl)) (lcons rfl rfl))))


end Go.Proofs.Ytmpeiinmbpjjdaa.Am
