import Derived.Test.YtndkhgfecnbmnaaProg
import Derived.Test.YtndkhgfecnbmnaaM2
import Derived.Test.YtndkhgfecnbmnaaM6
import Derived.Test.YtndkhgfecnbmnaaM3
namespace Go.Proofs.Ytndkhgfecnbmnaa.Am
open Go Go.Proofs
set_option maxRecDepth 100000
set_option maxHeartbeats 4000000
set_option linter.unusedVariables false
set_option linter.unusedSimpArgs false
theorem segmeet_any (ax ay bx b_y cx cy dx dy : Int) :
    AC Try.prog 109 0 ([.agg #[.int .i64 ax, .int .i64 ay], .agg #[.int .i64 bx, .int .i64 b_y], .agg #[.int .i64 cx, .int .i64 cy], .agg #[.int .i64 dx, .int .i64 dy]]) [] (.int .i64 (Sp.meetN (Sp.lim 1048576 ax) (Sp.lim 1048576 ay) (Sp.lim 1048576 bx) (Sp.lim 1048576 b_y) (Sp.lim 1048576 cx) (Sp.lim 1048576 cy) (Sp.lim 1048576 dx) (Sp.lim 1048576 dy))) [] := by
  have qax := Sp.lim_bd (m := 1048576) (by decide) ax; have qay := Sp.lim_bd (m := 1048576) (by decide) ay; have qbx := Sp.lim_bd (m := 1048576) (by decide) bx; have qb_y := Sp.lim_bd (m := 1048576) (by decide) b_y; have qcx := Sp.lim_bd (m := 1048576) (by decide) cx; have qcy := Sp.lim_bd (m := 1048576) (by decide) cy; have qdx := Sp.lim_bd (m := 1048576) (by decide) dx; have qdy := Sp.lim_bd (m := 1048576) (by decide) dy; have c0 := clamp_ok ax ay; have c1 := clamp_ok bx b_y; have c2 := clamp_ok cx cy; have c3 := clamp_ok dx dy; generalize Sp.lim 1048576 ax = AX at *; generalize Sp.lim 1048576 ay = AY at *; generalize Sp.lim 1048576 bx = BX at *; generalize Sp.lim 1048576 b_y = B_Y at *; generalize Sp.lim 1048576 cx = CX at *; generalize Sp.lim 1048576 cy = CY at *; generalize Sp.lim 1048576 dx = DX at *; generalize Sp.lim 1048576 dy = DY at *; have cm := Sp.cmp3 AX AY BX B_Y CX CY DX DY
  refine ac_in Try.func109 (fun w0 W pin => ?_)
  refine aw_p 3 (
    .a 5 1 <| .nil _ _) ?_
  refine aw_d 7 (
    .a 1 5 <| .p (does_c (c0)) <| .a 1 5 <| .p (does_c (c1)) <| .a 1 5 <| .p (does_c (c2)) <| .a 1 5 <| .p (does_c (c3)) <| .a 4 5 <| .nil _ _) ?_
  refine aw_sq 14 15 ?_
  rcases Bool.eq_false_or_eq_true (decide (((Sp.cmp (Sp.crs AX AY BX B_Y CX CY) 0) * (Sp.cmp (Sp.crs AX AY BX B_Y DX DY) 0)) < 0)) with h1 | h1
  · have h1p : ((((Sp.cmp (Sp.crs AX AY BX B_Y CX CY) 0) * (Sp.cmp (Sp.crs AX AY BX B_Y DX DY) 0)) < 0)) := by first | (simpa using h1) | (have h1q := h1; simp at h1q; omega) | (have h1q := bx1 h1; simp at h1q; omega)
    refine aw_d 29 (
      .a 3 5 <| .p (does_c (turn_in AX AY BX B_Y CX CY (by omega) (by omega) (by omega) (by omega) (by omega) (by omega) (by omega) (by omega) (by omega) (by omega) (by omega) (by omega))) <| .a 3 5 <|
      .p (does_c (turn_in AX AY BX B_Y DX DY (by omega) (by omega) (by omega) (by omega) (by omega) (by omega) (by omega) (by omega) (by omega) (by omega) (by omega) (by omega))) <|
      .p (does_i ((Sp.cmp (Sp.crs AX AY BX B_Y CX CY) 0) * (Sp.cmp (Sp.crs AX AY BX B_Y DX DY) 0)) (wrap_i64 (by omega) (by omega)) .i64) <| .p (does_b true (h1)) <| .a 4 5 <|
      .p (does_c (turn_in CX CY DX DY AX AY (by omega) (by omega) (by omega) (by omega) (by omega) (by omega) (by omega) (by omega) (by omega) (by omega) (by omega) (by omega))) <| .a 3 5 <|
      .p (does_c (turn_in CX CY DX DY BX B_Y (by omega) (by omega) (by omega) (by omega) (by omega) (by omega) (by omega) (by omega) (by omega) (by omega) (by omega) (by omega))) <|
      .p (does_i ((Sp.cmp (Sp.crs CX CY DX DY AX AY) 0) * (Sp.cmp (Sp.crs CX CY DX DY BX B_Y) 0)) (wrap_i64 (by omega) (by omega)) .i64) <| .a 2 5 <| .nil _ _) ?_
    refine aw_cd 58 59 (decide (((Sp.cmp (Sp.crs CX CY DX DY AX AY) 0) * (Sp.cmp (Sp.crs CX CY DX DY BX B_Y) 0)) < 0)) (fun h2 => ?_) (fun h2 => ?_)
    · have h2p : ((((Sp.cmp (Sp.crs CX CY DX DY AX AY) 0) * (Sp.cmp (Sp.crs CX CY DX DY BX B_Y) 0)) < 0)) := by first | (simpa using h2) | (have h2q := h2; simp at h2q; omega) | (have h2q := bx1 h2; simp at h2q; omega)
      refine aw_p 117 (
        .a 1 5 <| .nil _ _) ?_
      refine aw_rt ?_
      refine then_ret ?_
      exact en_ret [.int .i64 1] (show (.int .i64 1 : Value) = (.int .i64 (Sp.meetN AX AY BX B_Y CX CY DX DY)) from (congrArg (Value.int .i64) (show 1 = (Sp.meetN AX AY BX B_Y CX CY DX DY) from by exact (if_pos (show Sp.prp AX AY BX B_Y CX CY DX DY = true from by simp [Sp.prp, *])).symm)))
    · have h2p : ¬ ((((Sp.cmp (Sp.crs CX CY DX DY AX AY) 0) * (Sp.cmp (Sp.crs CX CY DX DY BX B_Y) 0)) < 0)) := by first | (simpa using h2) | (have h2q := h2; simp at h2q; omega) | (have h2q := bx2 h2; simp at h2q; omega)
      refine aw_sk ?_
      refine then_normal ?_
      rcases Bool.eq_false_or_eq_true (Sp.addb [] AX AY CX CY DX DY) with h3 | h3
      · rcases Bool.eq_false_or_eq_true (Sp.addb [(AX, AY)] BX B_Y CX CY DX DY) with h4 | h4
        · rcases Bool.eq_false_or_eq_true (Sp.addb [(AX, AY), (BX, B_Y)] CX CY AX AY BX B_Y) with h5 | h5
          · rcases Bool.eq_false_or_eq_true (Sp.addb [(AX, AY), (BX, B_Y), (CX, CY)] DX DY AX AY BX B_Y) with h6 | h6
            · refine aw_p 31 (
                .a 4 5 <| .p (does_k [5] (shared1111 AX AY BX B_Y CX CY DX DY (by omega) (by omega) (by omega) (by omega) (by omega) (by omega) (by omega) (by omega) (by omega) (by omega) (by omega) (by omega) (by omega) (by omega) (by omega) (by omega) h3 h4 h5 h6)) <| .a 3 6 <| .nil _ _) ?_
              refine aw_rt ?_
              exact en_ret [.int .i64 2] (show (.int .i64 2 : Value) = (.int .i64 (Sp.meetN AX AY BX B_Y CX CY DX DY)) from (congrArg (Value.int .i64) (show 2 = (Sp.meetN AX AY BX B_Y CX CY DX DY) from by (unfold Sp.meetN; rw [if_neg (show ¬ Sp.prp AX AY BX B_Y CX CY DX DY = true from by simp [Sp.prp, *])]; unfold Sp.shr; rw [(show Sp.addp [] AX AY CX CY DX DY = [(AX, AY)] from Sp.addp_y h3), (show Sp.addp [(AX, AY)] BX B_Y CX CY DX DY = [(AX, AY), (BX, B_Y)] from Sp.addp_y h4), (show Sp.addp [(AX, AY), (BX, B_Y)] CX CY AX AY BX B_Y = [(AX, AY), (BX, B_Y), (CX, CY)] from Sp.addp_y h5), (show Sp.addp [(AX, AY), (BX, B_Y), (CX, CY)] DX DY AX AY BX B_Y = [(AX, AY), (BX, B_Y), (CX, CY), (DX, DY)] from Sp.addp_y h6)]; rfl))))
            · refine aw_p 31 (
                .a 4 5 <| .p (does_k [5] (shared1110 AX AY BX B_Y CX CY DX DY (by omega) (by omega) (by omega) (by omega) (by omega) (by omega) (by omega) (by omega) (by omega) (by omega) (by omega) (by omega) (by omega) (by omega) (by omega) (by omega) h3 h4 h5 h6)) <| .a 3 6 <| .nil _ _) ?_
              refine aw_rt ?_
              exact en_ret [.int .i64 2] (show (.int .i64 2 : Value) = (.int .i64 (Sp.meetN AX AY BX B_Y CX CY DX DY)) from (congrArg (Value.int .i64) (show 2 = (Sp.meetN AX AY BX B_Y CX CY DX DY) from by (unfold Sp.meetN; rw [if_neg (show ¬ Sp.prp AX AY BX B_Y CX CY DX DY = true from by simp [Sp.prp, *])]; unfold Sp.shr; rw [(show Sp.addp [] AX AY CX CY DX DY = [(AX, AY)] from Sp.addp_y h3), (show Sp.addp [(AX, AY)] BX B_Y CX CY DX DY = [(AX, AY), (BX, B_Y)] from Sp.addp_y h4), (show Sp.addp [(AX, AY), (BX, B_Y)] CX CY AX AY BX B_Y = [(AX, AY), (BX, B_Y), (CX, CY)] from Sp.addp_y h5), (show Sp.addp [(AX, AY), (BX, B_Y), (CX, CY)] DX DY AX AY BX B_Y = [(AX, AY), (BX, B_Y), (CX, CY)] from Sp.addp_n h6)]; rfl))))
          · rcases Bool.eq_false_or_eq_true (Sp.addb [(AX, AY), (BX, B_Y)] DX DY AX AY BX B_Y) with h7 | h7
            · refine aw_p 31 (
                .a 4 5 <| .p (does_k [5] (shared1101 AX AY BX B_Y CX CY DX DY (by omega) (by omega) (by omega) (by omega) (by omega) (by omega) (by omega) (by omega) (by omega) (by omega) (by omega) (by omega) (by omega) (by omega) (by omega) (by omega) h3 h4 h5 h7)) <| .a 3 6 <| .nil _ _) ?_
              refine aw_rt ?_
              exact en_ret [.int .i64 2] (show (.int .i64 2 : Value) = (.int .i64 (Sp.meetN AX AY BX B_Y CX CY DX DY)) from (congrArg (Value.int .i64) (show 2 = (Sp.meetN AX AY BX B_Y CX CY DX DY) from by (unfold Sp.meetN; rw [if_neg (show ¬ Sp.prp AX AY BX B_Y CX CY DX DY = true from by simp [Sp.prp, *])]; unfold Sp.shr; rw [(show Sp.addp [] AX AY CX CY DX DY = [(AX, AY)] from Sp.addp_y h3), (show Sp.addp [(AX, AY)] BX B_Y CX CY DX DY = [(AX, AY), (BX, B_Y)] from Sp.addp_y h4), (show Sp.addp [(AX, AY), (BX, B_Y)] CX CY AX AY BX B_Y = [(AX, AY), (BX, B_Y)] from Sp.addp_n h5), (show Sp.addp [(AX, AY), (BX, B_Y)] DX DY AX AY BX B_Y = [(AX, AY), (BX, B_Y), (DX, DY)] from Sp.addp_y h7)]; rfl))))
            · refine aw_p 31 (
                .a 4 5 <| .p (does_k [5] (shared1100 AX AY BX B_Y CX CY DX DY (by omega) (by omega) (by omega) (by omega) (by omega) (by omega) (by omega) (by omega) (by omega) (by omega) (by omega) (by omega) (by omega) (by omega) (by omega) (by omega) h3 h4 h5 h7)) <| .a 3 6 <| .nil _ _) ?_
              refine aw_rt ?_
              exact en_ret [.int .i64 2] (show (.int .i64 2 : Value) = (.int .i64 (Sp.meetN AX AY BX B_Y CX CY DX DY)) from (congrArg (Value.int .i64) (show 2 = (Sp.meetN AX AY BX B_Y CX CY DX DY) from by (unfold Sp.meetN; rw [if_neg (show ¬ Sp.prp AX AY BX B_Y CX CY DX DY = true from by simp [Sp.prp, *])]; unfold Sp.shr; rw [(show Sp.addp [] AX AY CX CY DX DY = [(AX, AY)] from Sp.addp_y h3), (show Sp.addp [(AX, AY)] BX B_Y CX CY DX DY = [(AX, AY), (BX, B_Y)] from Sp.addp_y h4), (show Sp.addp [(AX, AY), (BX, B_Y)] CX CY AX AY BX B_Y = [(AX, AY), (BX, B_Y)] from Sp.addp_n h5), (show Sp.addp [(AX, AY), (BX, B_Y)] DX DY AX AY BX B_Y = [(AX, AY), (BX, B_Y)] from Sp.addp_n h7)]; rfl))))
        · rcases Bool.eq_false_or_eq_true (Sp.addb [(AX, AY)] CX CY AX AY BX B_Y) with h8 | h8
          · rcases Bool.eq_false_or_eq_true (Sp.addb [(AX, AY), (CX, CY)] DX DY AX AY BX B_Y) with h9 | h9
            · refine aw_p 31 (
                .a 4 5 <| .p (does_k [5] (shared1011 AX AY BX B_Y CX CY DX DY (by omega) (by omega) (by omega) (by omega) (by omega) (by omega) (by omega) (by omega) (by omega) (by omega) (by omega) (by omega) (by omega) (by omega) (by omega) (by omega) h3 h4 h8 h9)) <| .a 3 6 <| .nil _ _) ?_
              refine aw_rt ?_
              exact en_ret [.int .i64 2] (show (.int .i64 2 : Value) = (.int .i64 (Sp.meetN AX AY BX B_Y CX CY DX DY)) from (congrArg (Value.int .i64) (show 2 = (Sp.meetN AX AY BX B_Y CX CY DX DY) from by (unfold Sp.meetN; rw [if_neg (show ¬ Sp.prp AX AY BX B_Y CX CY DX DY = true from by simp [Sp.prp, *])]; unfold Sp.shr; rw [(show Sp.addp [] AX AY CX CY DX DY = [(AX, AY)] from Sp.addp_y h3), (show Sp.addp [(AX, AY)] BX B_Y CX CY DX DY = [(AX, AY)] from Sp.addp_n h4), (show Sp.addp [(AX, AY)] CX CY AX AY BX B_Y = [(AX, AY), (CX, CY)] from Sp.addp_y h8), (show Sp.addp [(AX, AY), (CX, CY)] DX DY AX AY BX B_Y = [(AX, AY), (CX, CY), (DX, DY)] from Sp.addp_y h9)]; rfl))))
            · refine aw_p 31 (
                .a 4 5 <| .p (does_k [5] (shared1010 AX AY BX B_Y CX CY DX DY (by omega) (by omega) (by omega) (by omega) (by omega) (by omega) (by omega) (by omega) (by omega) (by omega) (by omega) (by omega) (by omega) (by omega) (by omega) (by omega) h3 h4 h8 h9)) <| .a 3 6 <| .nil _ _) ?_
              refine aw_rt ?_
              exact en_ret [.int .i64 2] (show (.int .i64 2 : Value) = (.int .i64 (Sp.meetN AX AY BX B_Y CX CY DX DY)) from (congrArg (Value.int .i64) (show 2 = (Sp.meetN AX AY BX B_Y CX CY DX DY) from by (unfold Sp.meetN; rw [if_neg (show ¬ Sp.prp AX AY BX B_Y CX CY DX DY = true from by simp [Sp.prp, *])]; unfold Sp.shr; rw [(show Sp.addp [] AX AY CX CY DX DY = [(AX, AY)] from Sp.addp_y h3), (show Sp.addp [(AX, AY)] BX B_Y CX CY DX DY = [(AX, AY)] from Sp.addp_n h4), (show Sp.addp [(AX, AY)] CX CY AX AY BX B_Y = [(AX, AY), (CX, CY)] from Sp.addp_y h8), (show Sp.addp [(AX, AY), (CX, CY)] DX DY AX AY BX B_Y = [(AX, AY), (CX, CY)] from Sp.addp_n h9)]; rfl))))
          · rcases Bool.eq_false_or_eq_true (Sp.addb [(AX, AY)] DX DY AX AY BX B_Y) with h10 | h10
            · refine aw_p 31 (
                .a 4 5 <| .p (does_k [5] (shared1001 AX AY BX B_Y CX CY DX DY (by omega) (by omega) (by omega) (by omega) (by omega) (by omega) (by omega) (by omega) (by omega) (by omega) (by omega) (by omega) (by omega) (by omega) (by omega) (by omega) h3 h4 h8 h10)) <| .a 3 6 <| .nil _ _) ?_
              refine aw_rt ?_
              exact en_ret [.int .i64 2] (show (.int .i64 2 : Value) = (.int .i64 (Sp.meetN AX AY BX B_Y CX CY DX DY)) from (congrArg (Value.int .i64) (show 2 = (Sp.meetN AX AY BX B_Y CX CY DX DY) from by (unfold Sp.meetN; rw [if_neg (show ¬ Sp.prp AX AY BX B_Y CX CY DX DY = true from by simp [Sp.prp, *])]; unfold Sp.shr; rw [(show Sp.addp [] AX AY CX CY DX DY = [(AX, AY)] from Sp.addp_y h3), (show Sp.addp [(AX, AY)] BX B_Y CX CY DX DY = [(AX, AY)] from Sp.addp_n h4), (show Sp.addp [(AX, AY)] CX CY AX AY BX B_Y = [(AX, AY)] from Sp.addp_n h8), (show Sp.addp [(AX, AY)] DX DY AX AY BX B_Y = [(AX, AY), (DX, DY)] from Sp.addp_y h10)]; rfl))))
            · refine aw_p 31 (
                .a 4 5 <| .p (does_k [5] (shared1000 AX AY BX B_Y CX CY DX DY (by omega) (by omega) (by omega) (by omega) (by omega) (by omega) (by omega) (by omega) (by omega) (by omega) (by omega) (by omega) (by omega) (by omega) (by omega) (by omega) h3 h4 h8 h10)) <| .a 3 6 <| .nil _ _) ?_
              refine aw_rt ?_
              exact en_ret [.int .i64 1] (show (.int .i64 1 : Value) = (.int .i64 (Sp.meetN AX AY BX B_Y CX CY DX DY)) from (congrArg (Value.int .i64) (show 1 = (Sp.meetN AX AY BX B_Y CX CY DX DY) from by (unfold Sp.meetN; rw [if_neg (show ¬ Sp.prp AX AY BX B_Y CX CY DX DY = true from by simp [Sp.prp, *])]; unfold Sp.shr; rw [(show Sp.addp [] AX AY CX CY DX DY = [(AX, AY)] from Sp.addp_y h3), (show Sp.addp [(AX, AY)] BX B_Y CX CY DX DY = [(AX, AY)] from Sp.addp_n h4), (show Sp.addp [(AX, AY)] CX CY AX AY BX B_Y = [(AX, AY)] from Sp.addp_n h8), (show Sp.addp [(AX, AY)] DX DY AX AY BX B_Y = [(AX, AY)] from Sp.addp_n h10)]; rfl))))
      · rcases Bool.eq_false_or_eq_true (Sp.addb [] BX B_Y CX CY DX DY) with h11 | h11
        · rcases Bool.eq_false_or_eq_true (Sp.addb [(BX, B_Y)] CX CY AX AY BX B_Y) with h12 | h12
          · rcases Bool.eq_false_or_eq_true (Sp.addb [(BX, B_Y), (CX, CY)] DX DY AX AY BX B_Y) with h13 | h13
            · refine aw_p 31 (
                .a 4 5 <| .p (does_k [5] (shared0111 AX AY BX B_Y CX CY DX DY (by omega) (by omega) (by omega) (by omega) (by omega) (by omega) (by omega) (by omega) (by omega) (by omega) (by omega) (by omega) (by omega) (by omega) (by omega) (by omega) h3 h11 h12 h13)) <| .a 3 6 <| .nil _ _) ?_
              refine aw_rt ?_
              exact en_ret [.int .i64 2] (show (.int .i64 2 : Value) = (.int .i64 (Sp.meetN AX AY BX B_Y CX CY DX DY)) from (congrArg (Value.int .i64) (show 2 = (Sp.meetN AX AY BX B_Y CX CY DX DY) from by (unfold Sp.meetN; rw [if_neg (show ¬ Sp.prp AX AY BX B_Y CX CY DX DY = true from by simp [Sp.prp, *])]; unfold Sp.shr; rw [(show Sp.addp [] AX AY CX CY DX DY = [] from Sp.addp_n h3), (show Sp.addp [] BX B_Y CX CY DX DY = [(BX, B_Y)] from Sp.addp_y h11), (show Sp.addp [(BX, B_Y)] CX CY AX AY BX B_Y = [(BX, B_Y), (CX, CY)] from Sp.addp_y h12), (show Sp.addp [(BX, B_Y), (CX, CY)] DX DY AX AY BX B_Y = [(BX, B_Y), (CX, CY), (DX, DY)] from Sp.addp_y h13)]; rfl))))
            · refine aw_p 31 (
                .a 4 5 <| .p (does_k [5] (shared0110 AX AY BX B_Y CX CY DX DY (by omega) (by omega) (by omega) (by omega) (by omega) (by omega) (by omega) (by omega) (by omega) (by omega) (by omega) (by omega) (by omega) (by omega) (by omega) (by omega) h3 h11 h12 h13)) <| .a 3 6 <| .nil _ _) ?_
              refine aw_rt ?_
              exact en_ret [.int .i64 2] (show (.int .i64 2 : Value) = (.int .i64 (Sp.meetN AX AY BX B_Y CX CY DX DY)) from (congrArg (Value.int .i64) (show 2 = (Sp.meetN AX AY BX B_Y CX CY DX DY) from by (unfold Sp.meetN; rw [if_neg (show ¬ Sp.prp AX AY BX B_Y CX CY DX DY = true from by simp [Sp.prp, *])]; unfold Sp.shr; rw [(show Sp.addp [] AX AY CX CY DX DY = [] from Sp.addp_n h3), (show Sp.addp [] BX B_Y CX CY DX DY = [(BX, B_Y)] from Sp.addp_y h11), (show Sp.addp [(BX, B_Y)] CX CY AX AY BX B_Y = [(BX, B_Y), (CX, CY)] from Sp.addp_y h12), (show Sp.addp [(BX, B_Y), (CX, CY)] DX DY AX AY BX B_Y = [(BX, B_Y), (CX, CY)] from Sp.addp_n h13)]; rfl))))
          · rcases Bool.eq_false_or_eq_true (Sp.addb [(BX, B_Y)] DX DY AX AY BX B_Y) with h14 | h14
            · refine aw_p 31 (
                .a 4 5 <| .p (does_k [5] (shared0101 AX AY BX B_Y CX CY DX DY (by omega) (by omega) (by omega) (by omega) (by omega) (by omega) (by omega) (by omega) (by omega) (by omega) (by omega) (by omega) (by omega) (by omega) (by omega) (by omega) h3 h11 h12 h14)) <| .a 3 6 <| .nil _ _) ?_
              refine aw_rt ?_
              exact en_ret [.int .i64 2] (show (.int .i64 2 : Value) = (.int .i64 (Sp.meetN AX AY BX B_Y CX CY DX DY)) from (congrArg (Value.int .i64) (show 2 = (Sp.meetN AX AY BX B_Y CX CY DX DY) from by (unfold Sp.meetN; rw [if_neg (show ¬ Sp.prp AX AY BX B_Y CX CY DX DY = true from by simp [Sp.prp, *])]; unfold Sp.shr; rw [(show Sp.addp [] AX AY CX CY DX DY = [] from Sp.addp_n h3), (show Sp.addp [] BX B_Y CX CY DX DY = [(BX, B_Y)] from Sp.addp_y h11), (show Sp.addp [(BX, B_Y)] CX CY AX AY BX B_Y = [(BX, B_Y)] from Sp.addp_n h12), (show Sp.addp [(BX, B_Y)] DX DY AX AY BX B_Y = [(BX, B_Y), (DX, DY)] from Sp.addp_y h14)]; rfl))))
            · refine aw_p 31 (
                .a 4 5 <| .p (does_k [5] (shared0100 AX AY BX B_Y CX CY DX DY (by omega) (by omega) (by omega) (by omega) (by omega) (by omega) (by omega) (by omega) (by omega) (by omega) (by omega) (by omega) (by omega) (by omega) (by omega) (by omega) h3 h11 h12 h14)) <| .a 3 6 <| .nil _ _) ?_
              refine aw_rt ?_
              exact en_ret [.int .i64 1] (show (.int .i64 1 : Value) = (.int .i64 (Sp.meetN AX AY BX B_Y CX CY DX DY)) from (congrArg (Value.int .i64) (show 1 = (Sp.meetN AX AY BX B_Y CX CY DX DY) from by (unfold Sp.meetN; rw [if_neg (show ¬ Sp.prp AX AY BX B_Y CX CY DX DY = true from by simp [Sp.prp, *])]; unfold Sp.shr; rw [(show Sp.addp [] AX AY CX CY DX DY = [] from Sp.addp_n h3), (show Sp.addp [] BX B_Y CX CY DX DY = [(BX, B_Y)] from Sp.addp_y h11), (show Sp.addp [(BX, B_Y)] CX CY AX AY BX B_Y = [(BX, B_Y)] from Sp.addp_n h12), (show Sp.addp [(BX, B_Y)] DX DY AX AY BX B_Y = [(BX, B_Y)] from Sp.addp_n h14)]; rfl))))
        · rcases Bool.eq_false_or_eq_true (Sp.addb [] CX CY AX AY BX B_Y) with h15 | h15
          · rcases Bool.eq_false_or_eq_true (Sp.addb [(CX, CY)] DX DY AX AY BX B_Y) with h16 | h16
            · refine aw_p 31 (
                .a 4 5 <| .p (does_k [5] (shared0011 AX AY BX B_Y CX CY DX DY (by omega) (by omega) (by omega) (by omega) (by omega) (by omega) (by omega) (by omega) (by omega) (by omega) (by omega) (by omega) (by omega) (by omega) (by omega) (by omega) h3 h11 h15 h16)) <| .a 3 6 <| .nil _ _) ?_
              refine aw_rt ?_
              exact en_ret [.int .i64 2] (show (.int .i64 2 : Value) = (.int .i64 (Sp.meetN AX AY BX B_Y CX CY DX DY)) from (congrArg (Value.int .i64) (show 2 = (Sp.meetN AX AY BX B_Y CX CY DX DY) from by (unfold Sp.meetN; rw [if_neg (show ¬ Sp.prp AX AY BX B_Y CX CY DX DY = true from by simp [Sp.prp, *])]; unfold Sp.shr; rw [(show Sp.addp [] AX AY CX CY DX DY = [] from Sp.addp_n h3), (show Sp.addp [] BX B_Y CX CY DX DY = [] from Sp.addp_n h11), (show Sp.addp [] CX CY AX AY BX B_Y = [(CX, CY)] from Sp.addp_y h15), (show Sp.addp [(CX, CY)] DX DY AX AY BX B_Y = [(CX, CY), (DX, DY)] from Sp.addp_y h16)]; rfl))))
            · refine aw_p 31 (
                .a 4 5 <| .p (does_k [5] (shared0010 AX AY BX B_Y CX CY DX DY (by omega) (by omega) (by omega) (by omega) (by omega) (by omega) (by omega) (by omega) (by omega) (by omega) (by omega) (by omega) (by omega) (by omega) (by omega) (by omega) h3 h11 h15 h16)) <| .a 3 6 <| .nil _ _) ?_
              refine aw_rt ?_
              exact en_ret [.int .i64 1] (show (.int .i64 1 : Value) = (.int .i64 (Sp.meetN AX AY BX B_Y CX CY DX DY)) from (congrArg (Value.int .i64) (show 1 = (Sp.meetN AX AY BX B_Y CX CY DX DY) from by (unfold Sp.meetN; rw [if_neg (show ¬ Sp.prp AX AY BX B_Y CX CY DX DY = true from by simp [Sp.prp, *])]; unfold Sp.shr; rw [(show Sp.addp [] AX AY CX CY DX DY = [] from Sp.addp_n h3), (show Sp.addp [] BX B_Y CX CY DX DY = [] from Sp.addp_n h11), (show Sp.addp [] CX CY AX AY BX B_Y = [(CX, CY)] from Sp.addp_y h15), (show Sp.addp [(CX, CY)] DX DY AX AY BX B_Y = [(CX, CY)] from Sp.addp_n h16)]; rfl))))
          · rcases Bool.eq_false_or_eq_true (Sp.addb [] DX DY AX AY BX B_Y) with h17 | h17
            · refine aw_p 31 (
                .a 4 5 <| .p (does_k [5] (shared0001 AX AY BX B_Y CX CY DX DY (by omega) (by omega) (by omega) (by omega) (by omega) (by omega) (by omega) (by omega) (by omega) (by omega) (by omega) (by omega) (by omega) (by omega) (by omega) (by omega) h3 h11 h15 h17)) <| .a 3 6 <| .nil _ _) ?_
              refine aw_rt ?_
              exact en_ret [.int .i64 1] (show (.int .i64 1 : Value) = (.int .i64 (Sp.meetN AX AY BX B_Y CX CY DX DY)) from (congrArg (Value.int .i64) (show 1 = (Sp.meetN AX AY BX B_Y CX CY DX DY) from by (unfold Sp.meetN; rw [if_neg (show ¬ Sp.prp AX AY BX B_Y CX CY DX DY = true from by simp [Sp.prp, *])]; unfold Sp.shr; rw [(show Sp.addp [] AX AY CX CY DX DY = [] from Sp.addp_n h3), (show Sp.addp [] BX B_Y CX CY DX DY = [] from Sp.addp_n h11), (show Sp.addp [] CX CY AX AY BX B_Y = [] from Sp.addp_n h15), (show Sp.addp [] DX DY AX AY BX B_Y = [(DX, DY)] from Sp.addp_y h17)]; rfl))))
            · refine aw_p 31 (
                .a 4 5 <| .p (does_k [] (shared0000 AX AY BX B_Y CX CY DX DY (by omega) (by omega) (by omega) (by omega) (by omega) (by omega) (by omega) (by omega) (by omega) (by omega) (by omega) (by omega) (by omega) (by omega) (by omega) (by omega) h3 h11 h15 h17)) <| .a 3 5 <| .nil _ _) ?_
              refine aw_rt ?_
              exact en_ret [.int .i64 0] (show (.int .i64 0 : Value) = (.int .i64 (Sp.meetN AX AY BX B_Y CX CY DX DY)) from (congrArg (Value.int .i64) (show 0 = (Sp.meetN AX AY BX B_Y CX CY DX DY) from by (unfold Sp.meetN; rw [if_neg (show ¬ Sp.prp AX AY BX B_Y CX CY DX DY = true from by simp [Sp.prp, *])]; unfold Sp.shr; rw [(show Sp.addp [] AX AY CX CY DX DY = [] from Sp.addp_n h3), (show Sp.addp [] BX B_Y CX CY DX DY = [] from Sp.addp_n h11), (show Sp.addp [] CX CY AX AY BX B_Y = [] from Sp.addp_n h15), (show Sp.addp [] DX DY AX AY BX B_Y = [] from Sp.addp_n h17)]; rfl))))
  · have h1p : ¬ ((((Sp.cmp (Sp.crs AX AY BX B_Y CX CY) 0) * (Sp.cmp (Sp.crs AX AY BX B_Y DX DY) 0)) < 0)) := by first | (simpa using h1) | (have h1q := h1; simp at h1q; omega) | (have h1q := bx2 h1; simp at h1q; omega)
    refine aw_d 29 (
      .a 3 5 <| .p (does_c (turn_in AX AY BX B_Y CX CY (by omega) (by omega) (by omega) (by omega) (by omega) (by omega) (by omega) (by omega) (by omega) (by omega) (by omega) (by omega))) <| .a 3 5 <|
      .p (does_c (turn_in AX AY BX B_Y DX DY (by omega) (by omega) (by omega) (by omega) (by omega) (by omega) (by omega) (by omega) (by omega) (by omega) (by omega) (by omega))) <|
      .p (does_i ((Sp.cmp (Sp.crs AX AY BX B_Y CX CY) 0) * (Sp.cmp (Sp.crs AX AY BX B_Y DX DY) 0)) (wrap_i64 (by omega) (by omega)) .i64) <| .p (does_b false (h1)) <| .a 12 5 <| .nil _ _) ?_
    refine aw_fl 59 ?_
    refine aw_sk ?_
    refine then_normal ?_
    rcases Bool.eq_false_or_eq_true (Sp.addb [] AX AY CX CY DX DY) with h18 | h18
    · rcases Bool.eq_false_or_eq_true (Sp.addb [(AX, AY)] BX B_Y CX CY DX DY) with h19 | h19
      · rcases Bool.eq_false_or_eq_true (Sp.addb [(AX, AY), (BX, B_Y)] CX CY AX AY BX B_Y) with h20 | h20
        · rcases Bool.eq_false_or_eq_true (Sp.addb [(AX, AY), (BX, B_Y), (CX, CY)] DX DY AX AY BX B_Y) with h21 | h21
          · refine aw_p 31 (
              .a 4 5 <| .p (does_k [5] (shared1111 AX AY BX B_Y CX CY DX DY (by omega) (by omega) (by omega) (by omega) (by omega) (by omega) (by omega) (by omega) (by omega) (by omega) (by omega) (by omega) (by omega) (by omega) (by omega) (by omega) h18 h19 h20 h21)) <| .a 3 6 <| .nil _ _) ?_
            refine aw_rt ?_
            exact en_ret [.int .i64 2] (show (.int .i64 2 : Value) = (.int .i64 (Sp.meetN AX AY BX B_Y CX CY DX DY)) from (congrArg (Value.int .i64) (show 2 = (Sp.meetN AX AY BX B_Y CX CY DX DY) from by (unfold Sp.meetN; rw [if_neg (show ¬ Sp.prp AX AY BX B_Y CX CY DX DY = true from by simp [Sp.prp, *])]; unfold Sp.shr; rw [(show Sp.addp [] AX AY CX CY DX DY = [(AX, AY)] from Sp.addp_y h18), (show Sp.addp [(AX, AY)] BX B_Y CX CY DX DY = [(AX, AY), (BX, B_Y)] from Sp.addp_y h19), (show Sp.addp [(AX, AY), (BX, B_Y)] CX CY AX AY BX B_Y = [(AX, AY), (BX, B_Y), (CX, CY)] from Sp.addp_y h20), (show Sp.addp [(AX, AY), (BX, B_Y), (CX, CY)] DX DY AX AY BX B_Y = [(AX, AY), (BX, B_Y), (CX, CY), (DX, DY)] from Sp.addp_y h21)]; rfl))))
          · refine aw_p 31 (
              .a 4 5 <| .p (does_k [5] (shared1110 AX AY BX B_Y CX CY DX DY (by omega) (by omega) (by omega) (by omega) (by omega) (by omega) (by omega) (by omega) (by omega) (by omega) (by omega) (by omega) (by omega) (by omega) (by omega) (by omega) h18 h19 h20 h21)) <| .a 3 6 <| .nil _ _) ?_
            refine aw_rt ?_
            exact en_ret [.int .i64 2] (show (.int .i64 2 : Value) = (.int .i64 (Sp.meetN AX AY BX B_Y CX CY DX DY)) from (congrArg (Value.int .i64) (show 2 = (Sp.meetN AX AY BX B_Y CX CY DX DY) from by (unfold Sp.meetN; rw [if_neg (show ¬ Sp.prp AX AY BX B_Y CX CY DX DY = true from by simp [Sp.prp, *])]; unfold Sp.shr; rw [(show Sp.addp [] AX AY CX CY DX DY = [(AX, AY)] from Sp.addp_y h18), (show Sp.addp [(AX, AY)] BX B_Y CX CY DX DY = [(AX, AY), (BX, B_Y)] from Sp.addp_y h19), (show Sp.addp [(AX, AY), (BX, B_Y)] CX CY AX AY BX B_Y = [(AX, AY), (BX, B_Y), (CX, CY)] from Sp.addp_y h20), (show Sp.addp [(AX, AY), (BX, B_Y), (CX, CY)] DX DY AX AY BX B_Y = [(AX, AY), (BX, B_Y), (CX, CY)] from Sp.addp_n h21)]; rfl))))
        · rcases Bool.eq_false_or_eq_true (Sp.addb [(AX, AY), (BX, B_Y)] DX DY AX AY BX B_Y) with h22 | h22
          · refine aw_p 31 (
              .a 4 5 <| .p (does_k [5] (shared1101 AX AY BX B_Y CX CY DX DY (by omega) (by omega) (by omega) (by omega) (by omega) (by omega) (by omega) (by omega) (by omega) (by omega) (by omega) (by omega) (by omega) (by omega) (by omega) (by omega) h18 h19 h20 h22)) <| .a 3 6 <| .nil _ _) ?_
            refine aw_rt ?_
            exact en_ret [.int .i64 2] (show (.int .i64 2 : Value) = (.int .i64 (Sp.meetN AX AY BX B_Y CX CY DX DY)) from (congrArg (Value.int .i64) (show 2 = (Sp.meetN AX AY BX B_Y CX CY DX DY) from by (unfold Sp.meetN; rw [if_neg (show ¬ Sp.prp AX AY BX B_Y CX CY DX DY = true from by simp [Sp.prp, *])]; unfold Sp.shr; rw [(show Sp.addp [] AX AY CX CY DX DY = [(AX, AY)] from Sp.addp_y h18), (show Sp.addp [(AX, AY)] BX B_Y CX CY DX DY = [(AX, AY), (BX, B_Y)] from Sp.addp_y h19), (show Sp.addp [(AX, AY), (BX, B_Y)] CX CY AX AY BX B_Y = [(AX, AY), (BX, B_Y)] from Sp.addp_n h20), (show Sp.addp [(AX, AY), (BX, B_Y)] DX DY AX AY BX B_Y = [(AX, AY), (BX, B_Y), (DX, DY)] from Sp.addp_y h22)]; rfl))))
          · refine aw_p 31 (
              .a 4 5 <| .p (does_k [5] (shared1100 AX AY BX B_Y CX CY DX DY (by omega) (by omega) (by omega) (by omega) (by omega) (by omega) (by omega) (by omega) (by omega) (by omega) (by omega) (by omega) (by omega) (by omega) (by omega) (by omega) h18 h19 h20 h22)) <| .a 3 6 <| .nil _ _) ?_
            refine aw_rt ?_
            exact en_ret [.int .i64 2] (show (.int .i64 2 : Value) = (.int .i64 (Sp.meetN AX AY BX B_Y CX CY DX DY)) from (congrArg (Value.int .i64) (show 2 = (Sp.meetN AX AY BX B_Y CX CY DX DY) from by (unfold Sp.meetN; rw [if_neg (show ¬ Sp.prp AX AY BX B_Y CX CY DX DY = true from by simp [Sp.prp, *])]; unfold Sp.shr; rw [(show Sp.addp [] AX AY CX CY DX DY = [(AX, AY)] from Sp.addp_y h18), (show Sp.addp [(AX, AY)] BX B_Y CX CY DX DY = [(AX, AY), (BX, B_Y)] from Sp.addp_y h19), (show Sp.addp [(AX, AY), (BX, B_Y)] CX CY AX AY BX B_Y = [(AX, AY), (BX, B_Y)] from Sp.addp_n h20), (show Sp.addp [(AX, AY), (BX, B_Y)] DX DY AX AY BX B_Y = [(AX, AY), (BX, B_Y)] from Sp.addp_n h22)]; rfl))))
      · rcases Bool.eq_false_or_eq_true (Sp.addb [(AX, AY)] CX CY AX AY BX B_Y) with h23 | h23
        · rcases Bool.eq_false_or_eq_true (Sp.addb [(AX, AY), (CX, CY)] DX DY AX AY BX B_Y) with h24 | h24
          · refine aw_p 31 (
              .a 4 5 <| .p (does_k [5] (shared1011 AX AY BX B_Y CX CY DX DY (by omega) (by omega) (by omega) (by omega) (by omega) (by omega) (by omega) (by omega) (by omega) (by omega) (by omega) (by omega) (by omega) (by omega) (by omega) (by omega) h18 h19 h23 h24)) <| .a 3 6 <| .nil _ _) ?_
            refine aw_rt ?_
            exact en_ret [.int .i64 2] (show (.int .i64 2 : Value) = (.int .i64 (Sp.meetN AX AY BX B_Y CX CY DX DY)) from (congrArg (Value.int .i64) (show 2 = (Sp.meetN AX AY BX B_Y CX CY DX DY) from by (unfold Sp.meetN; rw [if_neg (show ¬ Sp.prp AX AY BX B_Y CX CY DX DY = true from by simp [Sp.prp, *])]; unfold Sp.shr; rw [(show Sp.addp [] AX AY CX CY DX DY = [(AX, AY)] from Sp.addp_y h18), (show Sp.addp [(AX, AY)] BX B_Y CX CY DX DY = [(AX, AY)] from Sp.addp_n h19), (show Sp.addp [(AX, AY)] CX CY AX AY BX B_Y = [(AX, AY), (CX, CY)] from Sp.addp_y h23), (show Sp.addp [(AX, AY), (CX, CY)] DX DY AX AY BX B_Y = [(AX, AY), (CX, CY), (DX, DY)] from Sp.addp_y h24)]; rfl))))
          · refine aw_p 31 (
              .a 4 5 <| .p (does_k [5] (shared1010 AX AY BX B_Y CX CY DX DY (by omega) (by omega) (by omega) (by omega) (by omega) (by omega) (by omega) (by omega) (by omega) (by omega) (by omega) (by omega) (by omega) (by omega) (by omega) (by omega) h18 h19 h23 h24)) <| .a 3 6 <| .nil _ _) ?_
            refine aw_rt ?_
            exact en_ret [.int .i64 2] (show (.int .i64 2 : Value) = (.int .i64 (Sp.meetN AX AY BX B_Y CX CY DX DY)) from (congrArg (Value.int .i64) (show 2 = (Sp.meetN AX AY BX B_Y CX CY DX DY) from by (unfold Sp.meetN; rw [if_neg (show ¬ Sp.prp AX AY BX B_Y CX CY DX DY = true from by simp [Sp.prp, *])]; unfold Sp.shr; rw [(show Sp.addp [] AX AY CX CY DX DY = [(AX, AY)] from Sp.addp_y h18), (show Sp.addp [(AX, AY)] BX B_Y CX CY DX DY = [(AX, AY)] from Sp.addp_n h19), (show Sp.addp [(AX, AY)] CX CY AX AY BX B_Y = [(AX, AY), (CX, CY)] from Sp.addp_y h23), (show Sp.addp [(AX, AY), (CX, CY)] DX DY AX AY BX B_Y = [(AX, AY), (CX, CY)] from Sp.addp_n h24)]; rfl))))
        · rcases Bool.eq_false_or_eq_true (Sp.addb [(AX, AY)] DX DY AX AY BX B_Y) with h25 | h25
          · refine aw_p 31 (
              .a 4 5 <| .p (does_k [5] (shared1001 AX AY BX B_Y CX CY DX DY (by omega) (by omega) (by omega) (by omega) (by omega) (by omega) (by omega) (by omega) (by omega) (by omega) (by omega) (by omega) (by omega) (by omega) (by omega) (by omega) h18 h19 h23 h25)) <| .a 3 6 <| .nil _ _) ?_
            refine aw_rt ?_
            exact en_ret [.int .i64 2] (show (.int .i64 2 : Value) = (.int .i64 (Sp.meetN AX AY BX B_Y CX CY DX DY)) from (congrArg (Value.int .i64) (show 2 = (Sp.meetN AX AY BX B_Y CX CY DX DY) from by (unfold Sp.meetN; rw [if_neg (show ¬ Sp.prp AX AY BX B_Y CX CY DX DY = true from by simp [Sp.prp, *])]; unfold Sp.shr; rw [(show Sp.addp [] AX AY CX CY DX DY = [(AX, AY)] from Sp.addp_y h18), (show Sp.addp [(AX, AY)] BX B_Y CX CY DX DY = [(AX, AY)] from Sp.addp_n h19), (show Sp.addp [(AX, AY)] CX CY AX AY BX B_Y = [(AX, AY)] from Sp.addp_n h23), (show Sp.addp [(AX, AY)] DX DY AX AY BX B_Y = [(AX, AY), (DX, DY)] from Sp.addp_y h25)]; rfl))))
          · refine aw_p 31 (
              .a 4 5 <| .p (does_k [5] (shared1000 AX AY BX B_Y CX CY DX DY (by omega) (by omega) (by omega) (by omega) (by omega) (by omega) (by omega) (by omega) (by omega) (by omega) (by omega) (by omega) (by omega) (by omega) (by omega) (by omega) h18 h19 h23 h25)) <| .a 3 6 <| .nil _ _) ?_
            refine aw_rt ?_
            exact en_ret [.int .i64 1] (show (.int .i64 1 : Value) = (.int .i64 (Sp.meetN AX AY BX B_Y CX CY DX DY)) from (congrArg (Value.int .i64) (show 1 = (Sp.meetN AX AY BX B_Y CX CY DX DY) from by (unfold Sp.meetN; rw [if_neg (show ¬ Sp.prp AX AY BX B_Y CX CY DX DY = true from by simp [Sp.prp, *])]; unfold Sp.shr; rw [(show Sp.addp [] AX AY CX CY DX DY = [(AX, AY)] from Sp.addp_y h18), (show Sp.addp [(AX, AY)] BX B_Y CX CY DX DY = [(AX, AY)] from Sp.addp_n h19), (show Sp.addp [(AX, AY)] CX CY AX AY BX B_Y = [(AX, AY)] from Sp.addp_n h23), (show Sp.addp [(AX, AY)] DX DY AX AY BX B_Y = [(AX, AY)] from Sp.addp_n h25)]; rfl))))
    · rcases Bool.eq_false_or_eq_true (Sp.addb [] BX B_Y CX CY DX DY) with h26 | h26
      · rcases Bool.eq_false_or_eq_true (Sp.addb [(BX, B_Y)] CX CY AX AY BX B_Y) with h27 | h27
        · rcases Bool.eq_false_or_eq_true (Sp.addb [(BX, B_Y), (CX, CY)] DX DY AX AY BX B_Y) with h28 | h28
          · refine aw_p 31 (
              .a 4 5 <| .p (does_k [5] (shared0111 AX AY BX B_Y CX CY DX DY (by omega) (by omega) (by omega) (by omega) (by omega) (by omega) (by omega) (by omega) (by omega) (by omega) (by omega) (by omega) (by omega) (by omega) (by omega) (by omega) h18 h26 h27 h28)) <| .a 3 6 <| .nil _ _) ?_
            refine aw_rt ?_
            exact en_ret [.int .i64 2] (show (.int .i64 2 : Value) = (.int .i64 (Sp.meetN AX AY BX B_Y CX CY DX DY)) from (congrArg (Value.int .i64) (show 2 = (Sp.meetN AX AY BX B_Y CX CY DX DY) from by (unfold Sp.meetN; rw [if_neg (show ¬ Sp.prp AX AY BX B_Y CX CY DX DY = true from by simp [Sp.prp, *])]; unfold Sp.shr; rw [(show Sp.addp [] AX AY CX CY DX DY = [] from Sp.addp_n h18), (show Sp.addp [] BX B_Y CX CY DX DY = [(BX, B_Y)] from Sp.addp_y h26), (show Sp.addp [(BX, B_Y)] CX CY AX AY BX B_Y = [(BX, B_Y), (CX, CY)] from Sp.addp_y h27), (show Sp.addp [(BX, B_Y), (CX, CY)] DX DY AX AY BX B_Y = [(BX, B_Y), (CX, CY), (DX, DY)] from Sp.addp_y h28)]; rfl))))
          · refine aw_p 31 (
              .a 4 5 <| .p (does_k [5] (shared0110 AX AY BX B_Y CX CY DX DY (by omega) (by omega) (by omega) (by omega) (by omega) (by omega) (by omega) (by omega) (by omega) (by omega) (by omega) (by omega) (by omega) (by omega) (by omega) (by omega) h18 h26 h27 h28)) <| .a 3 6 <| .nil _ _) ?_
            refine aw_rt ?_
            exact en_ret [.int .i64 2] (show (.int .i64 2 : Value) = (.int .i64 (Sp.meetN AX AY BX B_Y CX CY DX DY)) from (congrArg (Value.int .i64) (show 2 = (Sp.meetN AX AY BX B_Y CX CY DX DY) from by (unfold Sp.meetN; rw [if_neg (show ¬ Sp.prp AX AY BX B_Y CX CY DX DY = true from by simp [Sp.prp, *])]; unfold Sp.shr; rw [(show Sp.addp [] AX AY CX CY DX DY = [] from Sp.addp_n h18), (show Sp.addp [] BX B_Y CX CY DX DY = [(BX, B_Y)] from Sp.addp_y h26), (show Sp.addp [(BX, B_Y)] CX CY AX AY BX B_Y = [(BX, B_Y), (CX, CY)] from Sp.addp_y h27), (show Sp.addp [(BX, B_Y), (CX, CY)] DX DY AX AY BX B_Y = [(BX, B_Y), (CX, CY)] from Sp.addp_n h28)]; rfl))))
        · rcases Bool.eq_false_or_eq_true (Sp.addb [(BX, B_Y)] DX DY AX AY BX B_Y) with h29 | h29
          · refine aw_p 31 (
              .a 4 5 <| .p (does_k [5] (shared0101 AX AY BX B_Y CX CY DX DY (by omega) (by omega) (by omega) (by omega) (by omega) (by omega) (by omega) (by omega) (by omega) (by omega) (by omega) (by omega) (by omega) (by omega) (by omega) (by omega) h18 h26 h27 h29)) <| .a 3 6 <| .nil _ _) ?_
            refine aw_rt ?_
            exact en_ret [.int .i64 2] (show (.int .i64 2 : Value) = (.int .i64 (Sp.meetN AX AY BX B_Y CX CY DX DY)) from (congrArg (Value.int .i64) (show 2 = (Sp.meetN AX AY BX B_Y CX CY DX DY) from by (unfold Sp.meetN; rw [if_neg (show ¬ Sp.prp AX AY BX B_Y CX CY DX DY = true from by simp [Sp.prp, *])]; unfold Sp.shr; rw [(show Sp.addp [] AX AY CX CY DX DY = [] from Sp.addp_n h18), (show Sp.addp [] BX B_Y CX CY DX DY = [(BX, B_Y)] from Sp.addp_y h26), (show Sp.addp [(BX, B_Y)] CX CY AX AY BX B_Y = [(BX, B_Y)] from Sp.addp_n h27), (show Sp.addp [(BX, B_Y)] DX DY AX AY BX B_Y = [(BX, B_Y), (DX, DY)] from Sp.addp_y h29)]; rfl))))
          · refine aw_p 31 (
              .a 4 5 <| .p (does_k [5] (shared0100 AX AY BX B_Y CX CY DX DY (by omega) (by omega) (by omega) (by omega) (by omega) (by omega) (by omega) (by omega) (by omega) (by omega) (by omega) (by omega) (by omega) (by omega) (by omega) (by omega) h18 h26 h27 h29)) <| .a 3 6 <| .nil _ _) ?_
            refine aw_rt ?_
            exact en_ret [.int .i64 1] (show (.int .i64 1 : Value) = (.int .i64 (Sp.meetN AX AY BX B_Y CX CY DX DY)) from (congrArg (Value.int .i64) (show 1 = (Sp.meetN AX AY BX B_Y CX CY DX DY) from by (unfold Sp.meetN; rw [if_neg (show ¬ Sp.prp AX AY BX B_Y CX CY DX DY = true from by simp [Sp.prp, *])]; unfold Sp.shr; rw [(show Sp.addp [] AX AY CX CY DX DY = [] from Sp.addp_n h18), (show Sp.addp [] BX B_Y CX CY DX DY = [(BX, B_Y)] from Sp.addp_y h26), (show Sp.addp [(BX, B_Y)] CX CY AX AY BX B_Y = [(BX, B_Y)] from Sp.addp_n h27), (show Sp.addp [(BX, B_Y)] DX DY AX AY BX B_Y = [(BX, B_Y)] from Sp.addp_n h29)]; rfl))))
      · rcases Bool.eq_false_or_eq_true (Sp.addb [] CX CY AX AY BX B_Y) with h30 | h30
        · rcases Bool.eq_false_or_eq_true (Sp.addb [(CX, CY)] DX DY AX AY BX B_Y) with h31 | h31
          · refine aw_p 31 (
              .a 4 5 <| .p (does_k [5] (shared0011 AX AY BX B_Y CX CY DX DY (by omega) (by omega) (by omega) (by omega) (by omega) (by omega) (by omega) (by omega) (by omega) (by omega) (by omega) (by omega) (by omega) (by omega) (by omega) (by omega) h18 h26 h30 h31)) <| .a 3 6 <| .nil _ _) ?_
            refine aw_rt ?_
            exact en_ret [.int .i64 2] (show (.int .i64 2 : Value) = (.int .i64 (Sp.meetN AX AY BX B_Y CX CY DX DY)) from (congrArg (Value.int .i64) (show 2 = (Sp.meetN AX AY BX B_Y CX CY DX DY) from by (unfold Sp.meetN; rw [if_neg (show ¬ Sp.prp AX AY BX B_Y CX CY DX DY = true from by simp [Sp.prp, *])]; unfold Sp.shr; rw [(show Sp.addp [] AX AY CX CY DX DY = [] from Sp.addp_n h18), (show Sp.addp [] BX B_Y CX CY DX DY = [] from Sp.addp_n h26), (show Sp.addp [] CX CY AX AY BX B_Y = [(CX, CY)] from Sp.addp_y h30), (show Sp.addp [(CX, CY)] DX DY AX AY BX B_Y = [(CX, CY), (DX, DY)] from Sp.addp_y h31)]; rfl))))
          · refine aw_p 31 (
              .a 4 5 <| .p (does_k [5] (shared0010 AX AY BX B_Y CX CY DX DY (by omega) (by omega) (by omega) (by omega) (by omega) (by omega) (by omega) (by omega) (by omega) (by omega) (by omega) (by omega) (by omega) (by omega) (by omega) (by omega) h18 h26 h30 h31)) <| .a 3 6 <| .nil _ _) ?_
            refine aw_rt ?_
            exact en_ret [.int .i64 1] (show (.int .i64 1 : Value) = (.int .i64 (Sp.meetN AX AY BX B_Y CX CY DX DY)) from (congrArg (Value.int .i64) (show 1 = (Sp.meetN AX AY BX B_Y CX CY DX DY) from by (unfold Sp.meetN; rw [if_neg (show ¬ Sp.prp AX AY BX B_Y CX CY DX DY = true from by simp [Sp.prp, *])]; unfold Sp.shr; rw [(show Sp.addp [] AX AY CX CY DX DY = [] from Sp.addp_n h18), (show Sp.addp [] BX B_Y CX CY DX DY = [] from Sp.addp_n h26), (show Sp.addp [] CX CY AX AY BX B_Y = [(CX, CY)] from Sp.addp_y h30), (show Sp.addp [(CX, CY)] DX DY AX AY BX B_Y = [(CX, CY)] from Sp.addp_n h31)]; rfl))))
        · rcases Bool.eq_false_or_eq_true (Sp.addb [] DX DY AX AY BX B_Y) with h32 | h32
          · refine aw_p 31 (
              .a 4 5 <| .p (does_k [5] (shared0001 AX AY BX B_Y CX CY DX DY (by omega) (by omega) (by omega) (by omega) (by omega) (by omega) (by omega) (by omega) (by omega) (by omega) (by omega) (by omega) (by omega) (by omega) (by omega) (by omega) h18 h26 h30 h32)) <| .a 3 6 <| .nil _ _) ?_
            refine aw_rt ?_
            exact en_ret [.int .i64 1] (show (.int .i64 1 : Value) = (.int .i64 (Sp.meetN AX AY BX B_Y CX CY DX DY)) from (congrArg (Value.int .i64) (show 1 = (Sp.meetN AX AY BX B_Y CX CY DX DY) from by (unfold Sp.meetN; rw [if_neg (show ¬ Sp.prp AX AY BX B_Y CX CY DX DY = true from by simp [Sp.prp, *])]; unfold Sp.shr; rw [(show Sp.addp [] AX AY CX CY DX DY = [] from Sp.addp_n h18), (show Sp.addp [] BX B_Y CX CY DX DY = [] from Sp.addp_n h26), (show Sp.addp [] CX CY AX AY BX B_Y = [] from Sp.addp_n h30), (show Sp.addp [] DX DY AX AY BX B_Y = [(DX, DY)] from Sp.addp_y h32)]; rfl))))
          · refine aw_p 31 (
              .a 4 5 <| .p (does_k [] (shared0000 AX AY BX B_Y CX CY DX DY (by omega) (by omega) (by omega) (by omega) (by omega) (by omega) (by omega) (by omega) (by omega) (by omega) (by omega) (by omega) (by omega) (by omega) (by omega) (by omega) h18 h26 h30 h32)) <| .a 3 5 <| .nil _ _) ?_
            refine aw_rt ?_
            exact en_ret [.int .i64 0] (show (.int .i64 0 : Value) = (.int .i64 (Sp.meetN AX AY BX B_Y CX CY DX DY)) from (congrArg (Value.int .i64) (show 0 = (Sp.meetN AX AY BX B_Y CX CY DX DY) from by (unfold Sp.meetN; rw [if_neg (show ¬ Sp.prp AX AY BX B_Y CX CY DX DY = true from by simp [Sp.prp, *])]; unfold Sp.shr; rw [(show Sp.addp [] AX AY CX CY DX DY = [] from Sp.addp_n h18), (show Sp.addp [] BX B_Y CX CY DX DY = [] from Sp.addp_n h26), (show Sp.addp [] CX CY AX AY BX B_Y = [] from Sp.addp_n h30), (show Sp.addp [] DX DY AX AY BX B_Y = [] from Sp.addp_n h32)]; rfl))))
end Go.Proofs.Ytndkhgfecnbmnaa.Am

namespace Go.Proofs.Ytndkhgfecnbmnaa.Am
open Go Go.Proofs
set_option maxRecDepth 100000
set_option maxHeartbeats 4000000
set_option linter.unusedVariables false
set_option linter.unusedSimpArgs false
theorem side_ok (ps qs : List (Int × Int)) (zps : 1 ≤ ps.length ∧ ps.length ≤ 200) (fps : Sp.Few 1000 ps) (zqs : 1 ≤ qs.length ∧ qs.length ≤ 200) (fqs : Sp.Few 1000 qs) (e0 : Nat) (hi : e0 < ps.length) :
    AC Try.prog 58 2 ([sV 0 ps.length, .int .i64 ((e0 : Nat) : Int), sV 1 qs.length]) [(0, (pB ps)), (1, (pB qs))] (.int .i64 (Sp.sideF ps e0 qs)) [(0, (pB ps)), (1, (pB qs))] := by
  obtain ⟨e2, hi2⟩ : ∃ j, (e0 + 1) % ps.length = j := ⟨_, rfl⟩; have hi2l : e2 < ps.length := hi2 ▸ Nat.mod_lt _ (by omega); have fi := fps e0; have fj := fps e2; have hs : Sp.sdF qs ((ps.getD e0 (0, 0)).1 + (ps.getD e2 (0, 0)).1) ((ps.getD e0 (0, 0)).2 + (ps.getD e2 (0, 0)).2) = Sp.sideF ps e0 qs := by unfold Sp.sideF; rw [hi2]
  refine ac_in Try.func58 (fun w0 W pin => ?_)
  refine aw_p 3 (
    .a 1 2 <| .nil _ _) ?_
  refine aw_d 7 (
    .a 2 2 <| .p (does_indexSlice (t := 30) (x := .tmp 15) (y := .tmp 16) (k := 0) (off := 0) (n := ps.length) (c := 0) (z := 2) (kd := .i64) (j := ((e0 : Nat) : Int)) (by kernel_rfl) (by kernel_rfl) (by kernel_rfl) (by kernel_rfl) (by kernel_rfl) (by omega) (by omega)) <|
    .p (does_load (t := 28) (x := .tmp 17) (k := 0) (off := (0 + (((e0 : Nat) : Int)).toNat * 2)) (b := (pB ps)) (v := .agg #[.int .i64 ((ps.getD e0 (0, 0)).1), .int .i64 ((ps.getD e0 (0, 0)).2)]) (by kernel_rfl) (by kernel_rfl) (by kernel_rfl) (ldV_pair (j := e0) (by kernel_rfl) (by kernel_rfl) (by omega) (by omega))) <|
    .a 2 2 <| .p (does_i (((e0 : Nat) : Int) + 1) (wrap_i64 (by omega) (by omega)) .i64) <| .a 2 2 <|
    .p (does_int (n' := ((e2 : Nat) : Int)) (does_rem (t := 3) (t2 := 3) (x := .tmp 21) (y := .tmp 23) (k := .i64) (a := (((e0 : Nat) : Int) + 1)) (b := ((ps.length : Nat) : Int)) (by kernel_rfl) (by kernel_rfl) (by kernel_rfl) (by omega)) ((show (Int.tmod (((e0 : Nat) : Int) + 1) ((ps.length : Nat) : Int)) = ((e2 : Nat) : Int) from (by rw [← hi2]; exact rfl)))) <|
    .p (does_indexSlice (t := 30) (x := .tmp 19) (y := .tmp 24) (k := 0) (off := 0) (n := ps.length) (c := 0) (z := 2) (kd := .i64) (j := ((e2 : Nat) : Int)) (by kernel_rfl) (by kernel_rfl) (by kernel_rfl) (by kernel_rfl) (by kernel_rfl) (by omega) (by omega)) <|
    .p (does_load (t := 28) (x := .tmp 25) (k := 0) (off := (0 + (((e2 : Nat) : Int)).toNat * 2)) (b := (pB ps)) (v := .agg #[.int .i64 ((ps.getD e2 (0, 0)).1), .int .i64 ((ps.getD e2 (0, 0)).2)]) (by kernel_rfl) (by kernel_rfl) (by kernel_rfl) (ldV_pair (j := e2) (by kernel_rfl) (by kernel_rfl) (by omega) (by omega))) <|
    .a 4 2 <| .nil _ _) ?_
  refine aw_p 15 (
    .a 4 4 <| .p (does_i (((ps.getD e0 (0, 0)).1) + ((ps.getD e2 (0, 0)).1)) (wrap_i64 (by omega) (by omega)) .i64) <| .a 4 4 <| .p (does_i (((ps.getD e0 (0, 0)).2) + ((ps.getD e2 (0, 0)).2)) (wrap_i64 (by omega) (by omega)) .i64) <| .a 3 4 <| .nil _ _) ?_
  refine aw_p 31 (
    .a 1 5 <| .nil _ _) ?_
  refine aw_sq 62 63 ?_
  refine aw_p 125 (
    .a 3 5 <| .nil _ _) ?_
  refine aw_bl 0 251 ?_
  refine aw_lp 503 ?_
  refine al_w [(2, sV 1 qs.length), (9, .pointer (some ⟨4, 0, none⟩)), (10, .int .i64 (-1)), (39, .int .i64 ((qs.length : Nat) : Int)), (40, .int .i64 ((0 : Nat) : Int))] [(0, (pB ps)), (1, (pB qs)), (4, ⟨[.int .i64 ((ps.getD e0 (0, 0)).1 + (ps.getD e2 (0, 0)).1), .int .i64 ((ps.getD e0 (0, 0)).2 + (ps.getD e2 (0, 0)).2)], 28, true, 2⟩)] ?_ (hc := (by simp [closedB, valsB, valB, List.all_eq_true, List.mem_flatMap, List.mem_range, List.mem_map, i64v, ptc, flat1]; try (intros; simp [valsB, valB, flat1]); try decide))
  refine al_ind (fun i : Nat × Int => (fun (k : Nat) (out : Int) => mkSt 2 [(2, sV 1 qs.length), (9, .pointer (some ⟨4, 0, none⟩)), (10, .int .i64 out), (39, .int .i64 ((qs.length : Nat) : Int)), (40, .int .i64 ((k : Nat) : Int))] [(0, (pB ps)), (1, (pB qs)), (4, ⟨[.int .i64 ((ps.getD e0 (0, 0)).1 + (ps.getD e2 (0, 0)).1), .int .i64 ((ps.getD e0 (0, 0)).2 + (ps.getD e2 (0, 0)).2)], 28, true, 2⟩)]) i.1 i.2) (fun i : Nat × Int => (fun (k : Nat) (out : Int) => (k ≤ qs.length) ∧ (-1 ≤ out ∧ out ≤ 1) ∧ (Sp.sdL qs ((ps.getD e0 (0, 0)).1 + (ps.getD e2 (0, 0)).1) ((ps.getD e0 (0, 0)).2 + (ps.getD e2 (0, 0)).2) (qs.length - k) k out = Sp.sdF qs ((ps.getD e0 (0, 0)).1 + (ps.getD e2 (0, 0)).1) ((ps.getD e0 (0, 0)).2 + (ps.getD e2 (0, 0)).2))) i.1 i.2) (fun i : Nat × Int => (fun (k : Nat) (out : Int) => qs.length - k) i.1 i.2) (fun i hi1 ih1 => ?_) (0, (-1)) (show (0 ≤ qs.length) ∧ (-1 ≤ (-1) ∧ (-1) ≤ 1) ∧ (Sp.sdL qs ((ps.getD e0 (0, 0)).1 + (ps.getD e2 (0, 0)).1) ((ps.getD e0 (0, 0)).2 + (ps.getD e2 (0, 0)).2) (qs.length - 0) 0 (-1) = Sp.sdF qs ((ps.getD e0 (0, 0)).1 + (ps.getD e2 (0, 0)).1) ((ps.getD e0 (0, 0)).2 + (ps.getD e2 (0, 0)).2)) from ⟨by omega, by omega, by rfl⟩)
  obtain ⟨k, out⟩ := i
  have hi1' : (k ≤ qs.length) ∧ (-1 ≤ out ∧ out ≤ 1) ∧ (Sp.sdL qs ((ps.getD e0 (0, 0)).1 + (ps.getD e2 (0, 0)).1) ((ps.getD e0 (0, 0)).2 + (ps.getD e2 (0, 0)).2) (qs.length - k) k out = Sp.sdF qs ((ps.getD e0 (0, 0)).1 + (ps.getD e2 (0, 0)).1) ((ps.getD e0 (0, 0)).2 + (ps.getD e2 (0, 0)).2)) := hi1
  obtain ⟨hk, ho, hh⟩ := hi1'
  show AL _ _ _ (mkSt 2 [(2, sV 1 qs.length), (9, .pointer (some ⟨4, 0, none⟩)), (10, .int .i64 out), (39, .int .i64 ((qs.length : Nat) : Int)), (40, .int .i64 ((k : Nat) : Int))] [(0, (pB ps)), (1, (pB qs)), (4, ⟨[.int .i64 ((ps.getD e0 (0, 0)).1 + (ps.getD e2 (0, 0)).1), .int .i64 ((ps.getD e0 (0, 0)).2 + (ps.getD e2 (0, 0)).2)], 28, true, 2⟩)]) _
  refine al_round ?_
  refine aw_p 1007 (
    .a 1 5 <| .nil _ _) ?_
  refine aw_sq 2014 2015 ?_
  refine aw_cd 4028 4029 (decide (((k : Nat) : Int) < ((qs.length : Nat) : Int))) (fun h1 => ?_) (fun h1 => ?_)
  · have h1p : ((((k : Nat) : Int) < ((qs.length : Nat) : Int))) := by first | (simpa using h1) | (have h1q := h1; simp at h1q; omega) | (have h1q := bx1 h1; simp at h1q; omega)
    have hkl : k < qs.length := by omega
    obtain ⟨j, hj⟩ : ∃ j, (k + 1) % qs.length = j := ⟨_, rfl⟩; have hjl : j < qs.length := hj ▸ Nat.mod_lt _ (by omega); have g1 := fqs k; have g2 := fqs j; have p0 := Sp.mul_bd (a := ((qs.getD j (0, 0)).1 - (qs.getD k (0, 0)).1)) (b := (((ps.getD e0 (0, 0)).2 + (ps.getD e2 (0, 0)).2) - 2 * (qs.getD k (0, 0)).2)) (A := 2000) (B := 4000) (by omega) (by omega) (by omega) (by omega); have p1 := Sp.mul_bd (a := ((qs.getD j (0, 0)).2 - (qs.getD k (0, 0)).2)) (b := (((ps.getD e0 (0, 0)).1 + (ps.getD e2 (0, 0)).1) - 2 * (qs.getD k (0, 0)).1)) (A := 2000) (B := 4000) (by omega) (by omega) (by omega) (by omega); have p2 := Sp.mul_bd (a := ((qs.getD k (0, 0)).1 - (qs.getD j (0, 0)).1)) (b := (((ps.getD e0 (0, 0)).2 + (ps.getD e2 (0, 0)).2) - 2 * (qs.getD j (0, 0)).2)) (A := 2000) (B := 4000) (by omega) (by omega) (by omega) (by omega); have p3 := Sp.mul_bd (a := ((qs.getD k (0, 0)).2 - (qs.getD j (0, 0)).2)) (b := (((ps.getD e0 (0, 0)).1 + (ps.getD e2 (0, 0)).1) - 2 * (qs.getD j (0, 0)).1)) (A := 2000) (B := 4000) (by omega) (by omega) (by omega) (by omega)
    refine aw_sk ?_
    refine then_normal ?_
    refine aw_sq 4030 4031 ?_
    refine aw_bl 1 8061 ?_
    refine aw_p 16123 (
      .a 2 5 <| .nil _ _) ?_
    refine aw_d 32247 (
      .a 2 5 <| .p (does_indexSlice (t := 30) (x := .tmp 43) (y := .tmp 44) (k := 1) (off := 0) (n := qs.length) (c := 0) (z := 2) (kd := .i64) (j := ((k : Nat) : Int)) (by kernel_rfl) (by kernel_rfl) (by kernel_rfl) (by kernel_rfl) (by kernel_rfl) (by omega) (by omega)) <|
      .p (does_load (t := 28) (x := .tmp 45) (k := 1) (off := (0 + (((k : Nat) : Int)).toNat * 2)) (b := (pB qs)) (v := .agg #[.int .i64 ((qs.getD k (0, 0)).1), .int .i64 ((qs.getD k (0, 0)).2)]) (by kernel_rfl) (by kernel_rfl) (by kernel_rfl) (ldV_pair (j := k) (by kernel_rfl) (by kernel_rfl) (by omega) (by omega))) <|
      .a 2 5 <| .p (does_i (((k : Nat) : Int) + 1) (wrap_i64 (by omega) (by omega)) .i64) <| .a 2 5 <|
      .p (does_int (n' := ((j : Nat) : Int)) (does_rem (t := 3) (t2 := 3) (x := .tmp 49) (y := .tmp 51) (k := .i64) (a := (((k : Nat) : Int) + 1)) (b := ((qs.length : Nat) : Int)) (by kernel_rfl) (by kernel_rfl) (by kernel_rfl) (by omega)) ((show (Int.tmod (((k : Nat) : Int) + 1) ((qs.length : Nat) : Int)) = ((j : Nat) : Int) from (by rw [← hj]; exact rfl)))) <|
      .p (does_indexSlice (t := 30) (x := .tmp 47) (y := .tmp 52) (k := 1) (off := 0) (n := qs.length) (c := 0) (z := 2) (kd := .i64) (j := ((j : Nat) : Int)) (by kernel_rfl) (by kernel_rfl) (by kernel_rfl) (by kernel_rfl) (by kernel_rfl) (by omega) (by omega)) <|
      .p (does_load (t := 28) (x := .tmp 53) (k := 1) (off := (0 + (((j : Nat) : Int)).toNat * 2)) (b := (pB qs)) (v := .agg #[.int .i64 ((qs.getD j (0, 0)).1), .int .i64 ((qs.getD j (0, 0)).2)]) (by kernel_rfl) (by kernel_rfl) (by kernel_rfl) (ldV_pair (j := j) (by kernel_rfl) (by kernel_rfl) (by omega) (by omega))) <|
      .a 4 5 <| .nil _ _) ?_
    refine aw_sq 64494 64495 ?_
    refine aw_p 128989 (
      .a 5 7 <| .nil _ _) ?_
    refine aw_cd 257978 257979 (decide (((qs.getD k (0, 0)).2) > ((qs.getD j (0, 0)).2))) (fun h2 => ?_) (fun h2 => ?_)
    · have h2p : ((((qs.getD k (0, 0)).2) > ((qs.getD j (0, 0)).2))) := by first | (simpa using h2) | (have h2q := h2; simp at h2q; omega) | (have h2q := bx1 h2; simp at h2q; omega)
      refine aw_p1 (
        .a 4 7 <| .nil _ _) ?_
      refine then_normal ?_
      refine aw_p 128991 (
        .a 4 7 <| .p (does_i (((qs.getD k (0, 0)).1) - ((qs.getD j (0, 0)).1)) (wrap_i64 (by omega) (by omega)) .i64) <| .a 4 7 <| .p (does_i (2 * ((qs.getD j (0, 0)).2)) (wrap_i64 (by omega) (by omega)) .i64) <|
        .p (does_i (((ps.getD e0 (0, 0)).2 + (ps.getD e2 (0, 0)).2) - (2 * ((qs.getD j (0, 0)).2))) (wrap_i64 (by omega) (by omega)) .i64) <|
        .p (does_i ((((qs.getD k (0, 0)).1) - ((qs.getD j (0, 0)).1)) * (((ps.getD e0 (0, 0)).2 + (ps.getD e2 (0, 0)).2) - (2 * ((qs.getD j (0, 0)).2)))) (wrap_i64 (by omega) (by omega)) .i64) <| .a 4 7 <| .p (does_i (((qs.getD k (0, 0)).2) - ((qs.getD j (0, 0)).2)) (wrap_i64 (by omega) (by omega)) .i64) <|
        .a 4 7 <| .p (does_i (2 * ((qs.getD j (0, 0)).1)) (wrap_i64 (by omega) (by omega)) .i64) <| .p (does_i (((ps.getD e0 (0, 0)).1 + (ps.getD e2 (0, 0)).1) - (2 * ((qs.getD j (0, 0)).1))) (wrap_i64 (by omega) (by omega)) .i64) <|
        .p (does_i ((((qs.getD k (0, 0)).2) - ((qs.getD j (0, 0)).2)) * (((ps.getD e0 (0, 0)).1 + (ps.getD e2 (0, 0)).1) - (2 * ((qs.getD j (0, 0)).1)))) (wrap_i64 (by omega) (by omega)) .i64) <|
        .p (does_i (((((qs.getD k (0, 0)).1) - ((qs.getD j (0, 0)).1)) * (((ps.getD e0 (0, 0)).2 + (ps.getD e2 (0, 0)).2) - (2 * ((qs.getD j (0, 0)).2)))) - ((((qs.getD k (0, 0)).2) - ((qs.getD j (0, 0)).2)) * (((ps.getD e0 (0, 0)).1 + (ps.getD e2 (0, 0)).1) - (2 * ((qs.getD j (0, 0)).1))))) (wrap_i64 (by omega) (by omega)) .i64) <|
        .a 1 7 <| .nil _ _) ?_
      rcases Bool.eq_false_or_eq_true (decide ((2 * ((qs.getD j (0, 0)).2)) < ((ps.getD e0 (0, 0)).2 + (ps.getD e2 (0, 0)).2))) with h3 | h3
      · have h3p : (((2 * ((qs.getD j (0, 0)).2)) < ((ps.getD e0 (0, 0)).2 + (ps.getD e2 (0, 0)).2))) := by first | (simpa using h3) | (have h3q := h3; simp at h3q; omega) | (have h3q := bx1 h3; simp at h3q; omega)
        rcases Bool.eq_false_or_eq_true (decide (((ps.getD e0 (0, 0)).2 + (ps.getD e2 (0, 0)).2) ≤ (2 * ((qs.getD k (0, 0)).2)))) with h4 | h4
        · have h4p : ((((ps.getD e0 (0, 0)).2 + (ps.getD e2 (0, 0)).2) ≤ (2 * ((qs.getD k (0, 0)).2)))) := by first | (simpa using h4) | (have h4q := h4; simp at h4q; omega) | (have h4q := bx1 h4; simp at h4q; omega)
          refine aw_p 257983 (
            .a 2 7 <| .p (does_i (2 * ((qs.getD j (0, 0)).2)) (wrap_i64 (by omega) (by omega)) .i64) <| .a 2 7 <| .p (does_b true (h3)) <| .a 5 7 <| .p (does_i (2 * ((qs.getD k (0, 0)).2)) (wrap_i64 (by omega) (by omega)) .i64) <| .p (does_b true (h4)) <| .a 5 7 <| .nil _ _) ?_
          refine aw_cd 515966 515967 (decide ((((((qs.getD k (0, 0)).1) - ((qs.getD j (0, 0)).1)) * (((ps.getD e0 (0, 0)).2 + (ps.getD e2 (0, 0)).2) - (2 * ((qs.getD j (0, 0)).2)))) - ((((qs.getD k (0, 0)).2) - ((qs.getD j (0, 0)).2)) * (((ps.getD e0 (0, 0)).1 + (ps.getD e2 (0, 0)).1) - (2 * ((qs.getD j (0, 0)).1))))) > 0)) (fun h5 => ?_) (fun h5 => ?_)
          · have h5p : (((((((qs.getD k (0, 0)).1) - ((qs.getD j (0, 0)).1)) * (((ps.getD e0 (0, 0)).2 + (ps.getD e2 (0, 0)).2) - (2 * ((qs.getD j (0, 0)).2)))) - ((((qs.getD k (0, 0)).2) - ((qs.getD j (0, 0)).2)) * (((ps.getD e0 (0, 0)).1 + (ps.getD e2 (0, 0)).1) - (2 * ((qs.getD j (0, 0)).1))))) > 0)) := by first | (simpa using h5) | (have h5q := h5; simp at h5q; omega) | (have h5q := bx1 h5; simp at h5q; omega)
            refine aw_p1 (
              .a 1 7 <| .p (does_i (0 - out) (wrap_i64 (by omega) (by omega)) .i64) <| .a 1 7 <| .nil _ _) ?_
            refine block_normal ?_
            refine then_normal ?_
            refine aw_p1 (
              .p (does_i (((k : Nat) : Int) + 1) (wrap_i64 (by omega) (by omega)) .i64) <| .a 1 7 <| .nil _ _) ?_
            refine then_normal ?_
            refine al_w [(2, sV 1 qs.length), (9, .pointer (some ⟨4, 0, none⟩)), (10, .int .i64 (0 - out)), (39, .int .i64 ((qs.length : Nat) : Int)), (40, .int .i64 (((k + 1) : Nat) : Int))] [(0, (pB ps)), (1, (pB qs)), (4, ⟨[.int .i64 ((ps.getD e0 (0, 0)).1 + (ps.getD e2 (0, 0)).1), .int .i64 ((ps.getD e0 (0, 0)).2 + (ps.getD e2 (0, 0)).2)], 28, true, 2⟩)] ?_ (hc := (by simp [closedB, valsB, valB, List.all_eq_true, List.mem_flatMap, List.mem_range, List.mem_map, i64v, ptc, flat1]; try (intros; simp [valsB, valB, flat1]); try decide))
            exact ih1 ((k + 1), (0 - out)) (show ((k + 1) ≤ qs.length) ∧ (-1 ≤ (0 - out) ∧ (0 - out) ≤ 1) ∧ (Sp.sdL qs ((ps.getD e0 (0, 0)).1 + (ps.getD e2 (0, 0)).1) ((ps.getD e0 (0, 0)).2 + (ps.getD e2 (0, 0)).2) (qs.length - (k + 1)) (k + 1) (0 - out) = Sp.sdF qs ((ps.getD e0 (0, 0)).1 + (ps.getD e2 (0, 0)).1) ((ps.getD e0 (0, 0)).2 + (ps.getD e2 (0, 0)).2)) from ⟨by omega, by omega, by (rw [← hh]; first | exact Sp.sd_no hkl hj ((Sp.sdX_s (by assumption)).trans (Sp.sdX0_1 (by assumption))) | exact Sp.sd_no hkl hj ((Sp.sdX_s (by assumption)).trans (Sp.sdX0_2 (by assumption) (by assumption))) | exact Sp.sd_no hkl hj ((Sp.sdX_s (by assumption)).trans (Sp.sdX0_3 (by assumption) (by assumption) (by assumption))) | exact Sp.sd_cr hkl hj ((Sp.sdX_s (by assumption)).trans (Sp.sdX0_4 (by assumption) (by assumption) (by assumption))) | exact Sp.sd_no hkl hj ((Sp.sdX_n (by assumption)).trans (Sp.sdX0_1 (by assumption))) | exact Sp.sd_no hkl hj ((Sp.sdX_n (by assumption)).trans (Sp.sdX0_2 (by assumption) (by assumption))) | exact Sp.sd_no hkl hj ((Sp.sdX_n (by assumption)).trans (Sp.sdX0_3 (by assumption) (by assumption) (by assumption))) | exact Sp.sd_cr hkl hj ((Sp.sdX_n (by assumption)).trans (Sp.sdX0_4 (by assumption) (by assumption) (by assumption))))⟩) (show qs.length - (k + 1) < qs.length - k from by omega)
          · have h5p : ¬ (((((((qs.getD k (0, 0)).1) - ((qs.getD j (0, 0)).1)) * (((ps.getD e0 (0, 0)).2 + (ps.getD e2 (0, 0)).2) - (2 * ((qs.getD j (0, 0)).2)))) - ((((qs.getD k (0, 0)).2) - ((qs.getD j (0, 0)).2)) * (((ps.getD e0 (0, 0)).1 + (ps.getD e2 (0, 0)).1) - (2 * ((qs.getD j (0, 0)).1))))) > 0)) := by first | (simpa using h5) | (have h5q := h5; simp at h5q; omega) | (have h5q := bx2 h5; simp at h5q; omega)
            refine aw_sk ?_
            refine block_normal ?_
            refine then_normal ?_
            refine aw_p1 (
              .p (does_i (((k : Nat) : Int) + 1) (wrap_i64 (by omega) (by omega)) .i64) <| .a 1 7 <| .nil _ _) ?_
            refine then_normal ?_
            refine al_w [(2, sV 1 qs.length), (9, .pointer (some ⟨4, 0, none⟩)), (10, .int .i64 out), (39, .int .i64 ((qs.length : Nat) : Int)), (40, .int .i64 (((k + 1) : Nat) : Int))] [(0, (pB ps)), (1, (pB qs)), (4, ⟨[.int .i64 ((ps.getD e0 (0, 0)).1 + (ps.getD e2 (0, 0)).1), .int .i64 ((ps.getD e0 (0, 0)).2 + (ps.getD e2 (0, 0)).2)], 28, true, 2⟩)] ?_ (hc := (by simp [closedB, valsB, valB, List.all_eq_true, List.mem_flatMap, List.mem_range, List.mem_map, i64v, ptc, flat1]; try (intros; simp [valsB, valB, flat1]); try decide))
            exact ih1 ((k + 1), out) (show ((k + 1) ≤ qs.length) ∧ (-1 ≤ out ∧ out ≤ 1) ∧ (Sp.sdL qs ((ps.getD e0 (0, 0)).1 + (ps.getD e2 (0, 0)).1) ((ps.getD e0 (0, 0)).2 + (ps.getD e2 (0, 0)).2) (qs.length - (k + 1)) (k + 1) out = Sp.sdF qs ((ps.getD e0 (0, 0)).1 + (ps.getD e2 (0, 0)).1) ((ps.getD e0 (0, 0)).2 + (ps.getD e2 (0, 0)).2)) from ⟨by omega, by omega, by (rw [← hh]; first | exact Sp.sd_no hkl hj ((Sp.sdX_s (by assumption)).trans (Sp.sdX0_1 (by assumption))) | exact Sp.sd_no hkl hj ((Sp.sdX_s (by assumption)).trans (Sp.sdX0_2 (by assumption) (by assumption))) | exact Sp.sd_no hkl hj ((Sp.sdX_s (by assumption)).trans (Sp.sdX0_3 (by assumption) (by assumption) (by assumption))) | exact Sp.sd_cr hkl hj ((Sp.sdX_s (by assumption)).trans (Sp.sdX0_4 (by assumption) (by assumption) (by assumption))) | exact Sp.sd_no hkl hj ((Sp.sdX_n (by assumption)).trans (Sp.sdX0_1 (by assumption))) | exact Sp.sd_no hkl hj ((Sp.sdX_n (by assumption)).trans (Sp.sdX0_2 (by assumption) (by assumption))) | exact Sp.sd_no hkl hj ((Sp.sdX_n (by assumption)).trans (Sp.sdX0_3 (by assumption) (by assumption) (by assumption))) | exact Sp.sd_cr hkl hj ((Sp.sdX_n (by assumption)).trans (Sp.sdX0_4 (by assumption) (by assumption) (by assumption))))⟩) (show qs.length - (k + 1) < qs.length - k from by omega)
        · have h4p : ¬ ((((ps.getD e0 (0, 0)).2 + (ps.getD e2 (0, 0)).2) ≤ (2 * ((qs.getD k (0, 0)).2)))) := by first | (simpa using h4) | (have h4q := h4; simp at h4q; omega) | (have h4q := bx2 h4; simp at h4q; omega)
          refine aw_p 257983 (
            .a 2 7 <| .p (does_i (2 * ((qs.getD j (0, 0)).2)) (wrap_i64 (by omega) (by omega)) .i64) <| .a 2 7 <| .p (does_b true (h3)) <| .a 5 7 <| .p (does_i (2 * ((qs.getD k (0, 0)).2)) (wrap_i64 (by omega) (by omega)) .i64) <| .p (does_b false (h4)) <| .a 5 7 <| .nil _ _) ?_
          refine aw_fl 515967 ?_
          refine aw_sk ?_
          refine block_normal ?_
          refine then_normal ?_
          refine aw_p1 (
            .p (does_i (((k : Nat) : Int) + 1) (wrap_i64 (by omega) (by omega)) .i64) <| .a 1 7 <| .nil _ _) ?_
          refine then_normal ?_
          refine al_w [(2, sV 1 qs.length), (9, .pointer (some ⟨4, 0, none⟩)), (10, .int .i64 out), (39, .int .i64 ((qs.length : Nat) : Int)), (40, .int .i64 (((k + 1) : Nat) : Int))] [(0, (pB ps)), (1, (pB qs)), (4, ⟨[.int .i64 ((ps.getD e0 (0, 0)).1 + (ps.getD e2 (0, 0)).1), .int .i64 ((ps.getD e0 (0, 0)).2 + (ps.getD e2 (0, 0)).2)], 28, true, 2⟩)] ?_ (hc := (by simp [closedB, valsB, valB, List.all_eq_true, List.mem_flatMap, List.mem_range, List.mem_map, i64v, ptc, flat1]; try (intros; simp [valsB, valB, flat1]); try decide))
          exact ih1 ((k + 1), out) (show ((k + 1) ≤ qs.length) ∧ (-1 ≤ out ∧ out ≤ 1) ∧ (Sp.sdL qs ((ps.getD e0 (0, 0)).1 + (ps.getD e2 (0, 0)).1) ((ps.getD e0 (0, 0)).2 + (ps.getD e2 (0, 0)).2) (qs.length - (k + 1)) (k + 1) out = Sp.sdF qs ((ps.getD e0 (0, 0)).1 + (ps.getD e2 (0, 0)).1) ((ps.getD e0 (0, 0)).2 + (ps.getD e2 (0, 0)).2)) from ⟨by omega, by omega, by (rw [← hh]; first | exact Sp.sd_no hkl hj ((Sp.sdX_s (by assumption)).trans (Sp.sdX0_1 (by assumption))) | exact Sp.sd_no hkl hj ((Sp.sdX_s (by assumption)).trans (Sp.sdX0_2 (by assumption) (by assumption))) | exact Sp.sd_no hkl hj ((Sp.sdX_s (by assumption)).trans (Sp.sdX0_3 (by assumption) (by assumption) (by assumption))) | exact Sp.sd_cr hkl hj ((Sp.sdX_s (by assumption)).trans (Sp.sdX0_4 (by assumption) (by assumption) (by assumption))) | exact Sp.sd_no hkl hj ((Sp.sdX_n (by assumption)).trans (Sp.sdX0_1 (by assumption))) | exact Sp.sd_no hkl hj ((Sp.sdX_n (by assumption)).trans (Sp.sdX0_2 (by assumption) (by assumption))) | exact Sp.sd_no hkl hj ((Sp.sdX_n (by assumption)).trans (Sp.sdX0_3 (by assumption) (by assumption) (by assumption))) | exact Sp.sd_cr hkl hj ((Sp.sdX_n (by assumption)).trans (Sp.sdX0_4 (by assumption) (by assumption) (by assumption))))⟩) (show qs.length - (k + 1) < qs.length - k from by omega)
      · have h3p : ¬ (((2 * ((qs.getD j (0, 0)).2)) < ((ps.getD e0 (0, 0)).2 + (ps.getD e2 (0, 0)).2))) := by first | (simpa using h3) | (have h3q := h3; simp at h3q; omega) | (have h3q := bx2 h3; simp at h3q; omega)
        refine aw_p 257983 (
          .a 2 7 <| .p (does_i (2 * ((qs.getD j (0, 0)).2)) (wrap_i64 (by omega) (by omega)) .i64) <| .a 2 7 <| .p (does_b false (h3)) <| .a 12 7 <| .nil _ _) ?_
        refine aw_fl 515967 ?_
        refine aw_sk ?_
        refine block_normal ?_
        refine then_normal ?_
        refine aw_p1 (
          .p (does_i (((k : Nat) : Int) + 1) (wrap_i64 (by omega) (by omega)) .i64) <| .a 1 7 <| .nil _ _) ?_
        refine then_normal ?_
        refine al_w [(2, sV 1 qs.length), (9, .pointer (some ⟨4, 0, none⟩)), (10, .int .i64 out), (39, .int .i64 ((qs.length : Nat) : Int)), (40, .int .i64 (((k + 1) : Nat) : Int))] [(0, (pB ps)), (1, (pB qs)), (4, ⟨[.int .i64 ((ps.getD e0 (0, 0)).1 + (ps.getD e2 (0, 0)).1), .int .i64 ((ps.getD e0 (0, 0)).2 + (ps.getD e2 (0, 0)).2)], 28, true, 2⟩)] ?_ (hc := (by simp [closedB, valsB, valB, List.all_eq_true, List.mem_flatMap, List.mem_range, List.mem_map, i64v, ptc, flat1]; try (intros; simp [valsB, valB, flat1]); try decide))
        exact ih1 ((k + 1), out) (show ((k + 1) ≤ qs.length) ∧ (-1 ≤ out ∧ out ≤ 1) ∧ (Sp.sdL qs ((ps.getD e0 (0, 0)).1 + (ps.getD e2 (0, 0)).1) ((ps.getD e0 (0, 0)).2 + (ps.getD e2 (0, 0)).2) (qs.length - (k + 1)) (k + 1) out = Sp.sdF qs ((ps.getD e0 (0, 0)).1 + (ps.getD e2 (0, 0)).1) ((ps.getD e0 (0, 0)).2 + (ps.getD e2 (0, 0)).2)) from ⟨by omega, by omega, by (rw [← hh]; first | exact Sp.sd_no hkl hj ((Sp.sdX_s (by assumption)).trans (Sp.sdX0_1 (by assumption))) | exact Sp.sd_no hkl hj ((Sp.sdX_s (by assumption)).trans (Sp.sdX0_2 (by assumption) (by assumption))) | exact Sp.sd_no hkl hj ((Sp.sdX_s (by assumption)).trans (Sp.sdX0_3 (by assumption) (by assumption) (by assumption))) | exact Sp.sd_cr hkl hj ((Sp.sdX_s (by assumption)).trans (Sp.sdX0_4 (by assumption) (by assumption) (by assumption))) | exact Sp.sd_no hkl hj ((Sp.sdX_n (by assumption)).trans (Sp.sdX0_1 (by assumption))) | exact Sp.sd_no hkl hj ((Sp.sdX_n (by assumption)).trans (Sp.sdX0_2 (by assumption) (by assumption))) | exact Sp.sd_no hkl hj ((Sp.sdX_n (by assumption)).trans (Sp.sdX0_3 (by assumption) (by assumption) (by assumption))) | exact Sp.sd_cr hkl hj ((Sp.sdX_n (by assumption)).trans (Sp.sdX0_4 (by assumption) (by assumption) (by assumption))))⟩) (show qs.length - (k + 1) < qs.length - k from by omega)
    · have h2p : ¬ ((((qs.getD k (0, 0)).2) > ((qs.getD j (0, 0)).2))) := by first | (simpa using h2) | (have h2q := h2; simp at h2q; omega) | (have h2q := bx2 h2; simp at h2q; omega)
      refine aw_sk ?_
      refine then_normal ?_
      refine aw_p 128991 (
        .a 4 7 <| .p (does_i (((qs.getD j (0, 0)).1) - ((qs.getD k (0, 0)).1)) (wrap_i64 (by omega) (by omega)) .i64) <| .a 4 7 <| .p (does_i (2 * ((qs.getD k (0, 0)).2)) (wrap_i64 (by omega) (by omega)) .i64) <|
        .p (does_i (((ps.getD e0 (0, 0)).2 + (ps.getD e2 (0, 0)).2) - (2 * ((qs.getD k (0, 0)).2))) (wrap_i64 (by omega) (by omega)) .i64) <|
        .p (does_i ((((qs.getD j (0, 0)).1) - ((qs.getD k (0, 0)).1)) * (((ps.getD e0 (0, 0)).2 + (ps.getD e2 (0, 0)).2) - (2 * ((qs.getD k (0, 0)).2)))) (wrap_i64 (by omega) (by omega)) .i64) <| .a 4 7 <| .p (does_i (((qs.getD j (0, 0)).2) - ((qs.getD k (0, 0)).2)) (wrap_i64 (by omega) (by omega)) .i64) <|
        .a 4 7 <| .p (does_i (2 * ((qs.getD k (0, 0)).1)) (wrap_i64 (by omega) (by omega)) .i64) <| .p (does_i (((ps.getD e0 (0, 0)).1 + (ps.getD e2 (0, 0)).1) - (2 * ((qs.getD k (0, 0)).1))) (wrap_i64 (by omega) (by omega)) .i64) <|
        .p (does_i ((((qs.getD j (0, 0)).2) - ((qs.getD k (0, 0)).2)) * (((ps.getD e0 (0, 0)).1 + (ps.getD e2 (0, 0)).1) - (2 * ((qs.getD k (0, 0)).1)))) (wrap_i64 (by omega) (by omega)) .i64) <|
        .p (does_i (((((qs.getD j (0, 0)).1) - ((qs.getD k (0, 0)).1)) * (((ps.getD e0 (0, 0)).2 + (ps.getD e2 (0, 0)).2) - (2 * ((qs.getD k (0, 0)).2)))) - ((((qs.getD j (0, 0)).2) - ((qs.getD k (0, 0)).2)) * (((ps.getD e0 (0, 0)).1 + (ps.getD e2 (0, 0)).1) - (2 * ((qs.getD k (0, 0)).1))))) (wrap_i64 (by omega) (by omega)) .i64) <|
        .a 1 7 <| .nil _ _) ?_
      rcases Bool.eq_false_or_eq_true (decide ((2 * ((qs.getD k (0, 0)).2)) < ((ps.getD e0 (0, 0)).2 + (ps.getD e2 (0, 0)).2))) with h6 | h6
      · have h6p : (((2 * ((qs.getD k (0, 0)).2)) < ((ps.getD e0 (0, 0)).2 + (ps.getD e2 (0, 0)).2))) := by first | (simpa using h6) | (have h6q := h6; simp at h6q; omega) | (have h6q := bx1 h6; simp at h6q; omega)
        rcases Bool.eq_false_or_eq_true (decide (((ps.getD e0 (0, 0)).2 + (ps.getD e2 (0, 0)).2) ≤ (2 * ((qs.getD j (0, 0)).2)))) with h7 | h7
        · have h7p : ((((ps.getD e0 (0, 0)).2 + (ps.getD e2 (0, 0)).2) ≤ (2 * ((qs.getD j (0, 0)).2)))) := by first | (simpa using h7) | (have h7q := h7; simp at h7q; omega) | (have h7q := bx1 h7; simp at h7q; omega)
          refine aw_p 257983 (
            .a 2 7 <| .p (does_i (2 * ((qs.getD k (0, 0)).2)) (wrap_i64 (by omega) (by omega)) .i64) <| .a 2 7 <| .p (does_b true (h6)) <| .a 5 7 <| .p (does_i (2 * ((qs.getD j (0, 0)).2)) (wrap_i64 (by omega) (by omega)) .i64) <| .p (does_b true (h7)) <| .a 5 7 <| .nil _ _) ?_
          refine aw_cd 515966 515967 (decide ((((((qs.getD j (0, 0)).1) - ((qs.getD k (0, 0)).1)) * (((ps.getD e0 (0, 0)).2 + (ps.getD e2 (0, 0)).2) - (2 * ((qs.getD k (0, 0)).2)))) - ((((qs.getD j (0, 0)).2) - ((qs.getD k (0, 0)).2)) * (((ps.getD e0 (0, 0)).1 + (ps.getD e2 (0, 0)).1) - (2 * ((qs.getD k (0, 0)).1))))) > 0)) (fun h8 => ?_) (fun h8 => ?_)
          · have h8p : (((((((qs.getD j (0, 0)).1) - ((qs.getD k (0, 0)).1)) * (((ps.getD e0 (0, 0)).2 + (ps.getD e2 (0, 0)).2) - (2 * ((qs.getD k (0, 0)).2)))) - ((((qs.getD j (0, 0)).2) - ((qs.getD k (0, 0)).2)) * (((ps.getD e0 (0, 0)).1 + (ps.getD e2 (0, 0)).1) - (2 * ((qs.getD k (0, 0)).1))))) > 0)) := by first | (simpa using h8) | (have h8q := h8; simp at h8q; omega) | (have h8q := bx1 h8; simp at h8q; omega)
            refine aw_p1 (
              .a 1 7 <| .p (does_i (0 - out) (wrap_i64 (by omega) (by omega)) .i64) <| .a 1 7 <| .nil _ _) ?_
            refine block_normal ?_
            refine then_normal ?_
            refine aw_p1 (
              .p (does_i (((k : Nat) : Int) + 1) (wrap_i64 (by omega) (by omega)) .i64) <| .a 1 7 <| .nil _ _) ?_
            refine then_normal ?_
            refine al_w [(2, sV 1 qs.length), (9, .pointer (some ⟨4, 0, none⟩)), (10, .int .i64 (0 - out)), (39, .int .i64 ((qs.length : Nat) : Int)), (40, .int .i64 (((k + 1) : Nat) : Int))] [(0, (pB ps)), (1, (pB qs)), (4, ⟨[.int .i64 ((ps.getD e0 (0, 0)).1 + (ps.getD e2 (0, 0)).1), .int .i64 ((ps.getD e0 (0, 0)).2 + (ps.getD e2 (0, 0)).2)], 28, true, 2⟩)] ?_ (hc := (by simp [closedB, valsB, valB, List.all_eq_true, List.mem_flatMap, List.mem_range, List.mem_map, i64v, ptc, flat1]; try (intros; simp [valsB, valB, flat1]); try decide))
            exact ih1 ((k + 1), (0 - out)) (show ((k + 1) ≤ qs.length) ∧ (-1 ≤ (0 - out) ∧ (0 - out) ≤ 1) ∧ (Sp.sdL qs ((ps.getD e0 (0, 0)).1 + (ps.getD e2 (0, 0)).1) ((ps.getD e0 (0, 0)).2 + (ps.getD e2 (0, 0)).2) (qs.length - (k + 1)) (k + 1) (0 - out) = Sp.sdF qs ((ps.getD e0 (0, 0)).1 + (ps.getD e2 (0, 0)).1) ((ps.getD e0 (0, 0)).2 + (ps.getD e2 (0, 0)).2)) from ⟨by omega, by omega, by (rw [← hh]; first | exact Sp.sd_no hkl hj ((Sp.sdX_s (by assumption)).trans (Sp.sdX0_1 (by assumption))) | exact Sp.sd_no hkl hj ((Sp.sdX_s (by assumption)).trans (Sp.sdX0_2 (by assumption) (by assumption))) | exact Sp.sd_no hkl hj ((Sp.sdX_s (by assumption)).trans (Sp.sdX0_3 (by assumption) (by assumption) (by assumption))) | exact Sp.sd_cr hkl hj ((Sp.sdX_s (by assumption)).trans (Sp.sdX0_4 (by assumption) (by assumption) (by assumption))) | exact Sp.sd_no hkl hj ((Sp.sdX_n (by assumption)).trans (Sp.sdX0_1 (by assumption))) | exact Sp.sd_no hkl hj ((Sp.sdX_n (by assumption)).trans (Sp.sdX0_2 (by assumption) (by assumption))) | exact Sp.sd_no hkl hj ((Sp.sdX_n (by assumption)).trans (Sp.sdX0_3 (by assumption) (by assumption) (by assumption))) | exact Sp.sd_cr hkl hj ((Sp.sdX_n (by assumption)).trans (Sp.sdX0_4 (by assumption) (by assumption) (by assumption))))⟩) (show qs.length - (k + 1) < qs.length - k from by omega)
          · have h8p : ¬ (((((((qs.getD j (0, 0)).1) - ((qs.getD k (0, 0)).1)) * (((ps.getD e0 (0, 0)).2 + (ps.getD e2 (0, 0)).2) - (2 * ((qs.getD k (0, 0)).2)))) - ((((qs.getD j (0, 0)).2) - ((qs.getD k (0, 0)).2)) * (((ps.getD e0 (0, 0)).1 + (ps.getD e2 (0, 0)).1) - (2 * ((qs.getD k (0, 0)).1))))) > 0)) := by first | (simpa using h8) | (have h8q := h8; simp at h8q; omega) | (have h8q := bx2 h8; simp at h8q; omega)
            refine aw_sk ?_
            refine block_normal ?_
            refine then_normal ?_
            refine aw_p1 (
              .p (does_i (((k : Nat) : Int) + 1) (wrap_i64 (by omega) (by omega)) .i64) <| .a 1 7 <| .nil _ _) ?_
            refine then_normal ?_
            refine al_w [(2, sV 1 qs.length), (9, .pointer (some ⟨4, 0, none⟩)), (10, .int .i64 out), (39, .int .i64 ((qs.length : Nat) : Int)), (40, .int .i64 (((k + 1) : Nat) : Int))] [(0, (pB ps)), (1, (pB qs)), (4, ⟨[.int .i64 ((ps.getD e0 (0, 0)).1 + (ps.getD e2 (0, 0)).1), .int .i64 ((ps.getD e0 (0, 0)).2 + (ps.getD e2 (0, 0)).2)], 28, true, 2⟩)] ?_ (hc := (by simp [closedB, valsB, valB, List.all_eq_true, List.mem_flatMap, List.mem_range, List.mem_map, i64v, ptc, flat1]; try (intros; simp [valsB, valB, flat1]); try decide))
            exact ih1 ((k + 1), out) (show ((k + 1) ≤ qs.length) ∧ (-1 ≤ out ∧ out ≤ 1) ∧ (Sp.sdL qs ((ps.getD e0 (0, 0)).1 + (ps.getD e2 (0, 0)).1) ((ps.getD e0 (0, 0)).2 + (ps.getD e2 (0, 0)).2) (qs.length - (k + 1)) (k + 1) out = Sp.sdF qs ((ps.getD e0 (0, 0)).1 + (ps.getD e2 (0, 0)).1) ((ps.getD e0 (0, 0)).2 + (ps.getD e2 (0, 0)).2)) from ⟨by omega, by omega, by (rw [← hh]; first | exact Sp.sd_no hkl hj ((Sp.sdX_s (by assumption)).trans (Sp.sdX0_1 (by assumption))) | exact Sp.sd_no hkl hj ((Sp.sdX_s (by assumption)).trans (Sp.sdX0_2 (by assumption) (by assumption))) | exact Sp.sd_no hkl hj ((Sp.sdX_s (by assumption)).trans (Sp.sdX0_3 (by assumption) (by assumption) (by assumption))) | exact Sp.sd_cr hkl hj ((Sp.sdX_s (by assumption)).trans (Sp.sdX0_4 (by assumption) (by assumption) (by assumption))) | exact Sp.sd_no hkl hj ((Sp.sdX_n (by assumption)).trans (Sp.sdX0_1 (by assumption))) | exact Sp.sd_no hkl hj ((Sp.sdX_n (by assumption)).trans (Sp.sdX0_2 (by assumption) (by assumption))) | exact Sp.sd_no hkl hj ((Sp.sdX_n (by assumption)).trans (Sp.sdX0_3 (by assumption) (by assumption) (by assumption))) | exact Sp.sd_cr hkl hj ((Sp.sdX_n (by assumption)).trans (Sp.sdX0_4 (by assumption) (by assumption) (by assumption))))⟩) (show qs.length - (k + 1) < qs.length - k from by omega)
        · have h7p : ¬ ((((ps.getD e0 (0, 0)).2 + (ps.getD e2 (0, 0)).2) ≤ (2 * ((qs.getD j (0, 0)).2)))) := by first | (simpa using h7) | (have h7q := h7; simp at h7q; omega) | (have h7q := bx2 h7; simp at h7q; omega)
          refine aw_p 257983 (
            .a 2 7 <| .p (does_i (2 * ((qs.getD k (0, 0)).2)) (wrap_i64 (by omega) (by omega)) .i64) <| .a 2 7 <| .p (does_b true (h6)) <| .a 5 7 <| .p (does_i (2 * ((qs.getD j (0, 0)).2)) (wrap_i64 (by omega) (by omega)) .i64) <| .p (does_b false (h7)) <| .a 5 7 <| .nil _ _) ?_
          refine aw_fl 515967 ?_
          refine aw_sk ?_
          refine block_normal ?_
          refine then_normal ?_
          refine aw_p1 (
            .p (does_i (((k : Nat) : Int) + 1) (wrap_i64 (by omega) (by omega)) .i64) <| .a 1 7 <| .nil _ _) ?_
          refine then_normal ?_
          refine al_w [(2, sV 1 qs.length), (9, .pointer (some ⟨4, 0, none⟩)), (10, .int .i64 out), (39, .int .i64 ((qs.length : Nat) : Int)), (40, .int .i64 (((k + 1) : Nat) : Int))] [(0, (pB ps)), (1, (pB qs)), (4, ⟨[.int .i64 ((ps.getD e0 (0, 0)).1 + (ps.getD e2 (0, 0)).1), .int .i64 ((ps.getD e0 (0, 0)).2 + (ps.getD e2 (0, 0)).2)], 28, true, 2⟩)] ?_ (hc := (by simp [closedB, valsB, valB, List.all_eq_true, List.mem_flatMap, List.mem_range, List.mem_map, i64v, ptc, flat1]; try (intros; simp [valsB, valB, flat1]); try decide))
          exact ih1 ((k + 1), out) (show ((k + 1) ≤ qs.length) ∧ (-1 ≤ out ∧ out ≤ 1) ∧ (Sp.sdL qs ((ps.getD e0 (0, 0)).1 + (ps.getD e2 (0, 0)).1) ((ps.getD e0 (0, 0)).2 + (ps.getD e2 (0, 0)).2) (qs.length - (k + 1)) (k + 1) out = Sp.sdF qs ((ps.getD e0 (0, 0)).1 + (ps.getD e2 (0, 0)).1) ((ps.getD e0 (0, 0)).2 + (ps.getD e2 (0, 0)).2)) from ⟨by omega, by omega, by (rw [← hh]; first | exact Sp.sd_no hkl hj ((Sp.sdX_s (by assumption)).trans (Sp.sdX0_1 (by assumption))) | exact Sp.sd_no hkl hj ((Sp.sdX_s (by assumption)).trans (Sp.sdX0_2 (by assumption) (by assumption))) | exact Sp.sd_no hkl hj ((Sp.sdX_s (by assumption)).trans (Sp.sdX0_3 (by assumption) (by assumption) (by assumption))) | exact Sp.sd_cr hkl hj ((Sp.sdX_s (by assumption)).trans (Sp.sdX0_4 (by assumption) (by assumption) (by assumption))) | exact Sp.sd_no hkl hj ((Sp.sdX_n (by assumption)).trans (Sp.sdX0_1 (by assumption))) | exact Sp.sd_no hkl hj ((Sp.sdX_n (by assumption)).trans (Sp.sdX0_2 (by assumption) (by assumption))) | exact Sp.sd_no hkl hj ((Sp.sdX_n (by assumption)).trans (Sp.sdX0_3 (by assumption) (by assumption) (by assumption))) | exact Sp.sd_cr hkl hj ((Sp.sdX_n (by assumption)).trans (Sp.sdX0_4 (by assumption) (by assumption) (by assumption))))⟩) (show qs.length - (k + 1) < qs.length - k from by omega)
      · have h6p : ¬ (((2 * ((qs.getD k (0, 0)).2)) < ((ps.getD e0 (0, 0)).2 + (ps.getD e2 (0, 0)).2))) := by first | (simpa using h6) | (have h6q := h6; simp at h6q; omega) | (have h6q := bx2 h6; simp at h6q; omega)
        refine aw_p 257983 (
          .a 2 7 <| .p (does_i (2 * ((qs.getD k (0, 0)).2)) (wrap_i64 (by omega) (by omega)) .i64) <| .a 2 7 <| .p (does_b false (h6)) <| .a 12 7 <| .nil _ _) ?_
        refine aw_fl 515967 ?_
        refine aw_sk ?_
        refine block_normal ?_
        refine then_normal ?_
        refine aw_p1 (
          .p (does_i (((k : Nat) : Int) + 1) (wrap_i64 (by omega) (by omega)) .i64) <| .a 1 7 <| .nil _ _) ?_
        refine then_normal ?_
        refine al_w [(2, sV 1 qs.length), (9, .pointer (some ⟨4, 0, none⟩)), (10, .int .i64 out), (39, .int .i64 ((qs.length : Nat) : Int)), (40, .int .i64 (((k + 1) : Nat) : Int))] [(0, (pB ps)), (1, (pB qs)), (4, ⟨[.int .i64 ((ps.getD e0 (0, 0)).1 + (ps.getD e2 (0, 0)).1), .int .i64 ((ps.getD e0 (0, 0)).2 + (ps.getD e2 (0, 0)).2)], 28, true, 2⟩)] ?_ (hc := (by simp [closedB, valsB, valB, List.all_eq_true, List.mem_flatMap, List.mem_range, List.mem_map, i64v, ptc, flat1]; try (intros; simp [valsB, valB, flat1]); try decide))
        exact ih1 ((k + 1), out) (show ((k + 1) ≤ qs.length) ∧ (-1 ≤ out ∧ out ≤ 1) ∧ (Sp.sdL qs ((ps.getD e0 (0, 0)).1 + (ps.getD e2 (0, 0)).1) ((ps.getD e0 (0, 0)).2 + (ps.getD e2 (0, 0)).2) (qs.length - (k + 1)) (k + 1) out = Sp.sdF qs ((ps.getD e0 (0, 0)).1 + (ps.getD e2 (0, 0)).1) ((ps.getD e0 (0, 0)).2 + (ps.getD e2 (0, 0)).2)) from ⟨by omega, by omega, by (rw [← hh]; first | exact Sp.sd_no hkl hj ((Sp.sdX_s (by assumption)).trans (Sp.sdX0_1 (by assumption))) | exact Sp.sd_no hkl hj ((Sp.sdX_s (by assumption)).trans (Sp.sdX0_2 (by assumption) (by assumption))) | exact Sp.sd_no hkl hj ((Sp.sdX_s (by assumption)).trans (Sp.sdX0_3 (by assumption) (by assumption) (by assumption))) | exact Sp.sd_cr hkl hj ((Sp.sdX_s (by assumption)).trans (Sp.sdX0_4 (by assumption) (by assumption) (by assumption))) | exact Sp.sd_no hkl hj ((Sp.sdX_n (by assumption)).trans (Sp.sdX0_1 (by assumption))) | exact Sp.sd_no hkl hj ((Sp.sdX_n (by assumption)).trans (Sp.sdX0_2 (by assumption) (by assumption))) | exact Sp.sd_no hkl hj ((Sp.sdX_n (by assumption)).trans (Sp.sdX0_3 (by assumption) (by assumption) (by assumption))) | exact Sp.sd_cr hkl hj ((Sp.sdX_n (by assumption)).trans (Sp.sdX0_4 (by assumption) (by assumption) (by assumption))))⟩) (show qs.length - (k + 1) < qs.length - k from by omega)
  · have h1p : ¬ ((((k : Nat) : Int) < ((qs.length : Nat) : Int))) := by first | (simpa using h1) | (have h1q := h1; simp at h1q; omega) | (have h1q := bx2 h1; simp at h1q; omega)
    have hge : ¬ k < qs.length := by omega
    refine aw_ex 0 ?_
    refine then_exit ?_
    refine then_exit ?_
    refine block_exit ?_
    refine then_normal ?_
    refine aw_p 127 (
      .a 2 5 <| .nil _ _) ?_
    refine aw_rt ?_
    exact en_ret [.int .i64 out] (show (.int .i64 out : Value) = (.int .i64 (Sp.sideF ps e0 qs)) from (congrArg (Value.int .i64) (show out = (Sp.sideF ps e0 qs) from by (exact (by rw [← hs, ← hh, Sp.sd_end hge])))))
theorem corners_ok (ax ay bx b_y cx cy dx dy : Int) :
    AC Try.prog 98 0 ([.agg #[.int .i64 ax, .int .i64 ay], .agg #[.int .i64 bx, .int .i64 b_y], .agg #[.int .i64 cx, .int .i64 cy], .agg #[.int .i64 dx, .int .i64 dy]]) [] (.bool (Sp.cornX ax ay bx b_y cx cy dx dy)) [] := by
  refine ac_in Try.func98 (fun w0 W pin => ?_)
  refine aw_p 3 (
    .a 5 1 <| .nil _ _) ?_
  refine aw_sq 6 7 ?_
  refine aw_p 13 (
    .a 4 5 <| .p (does_c (segmeet_any ax ay bx b_y cx cy dx dy)) <| .nil _ _) ?_
  refine aw_bl 0 27 ?_
  refine aw_p 55 (
    .a 2 5 <| .nil _ _) ?_
  refine aw_cd 110 111 ((Sp.meetN (Sp.lim 1048576 ax) (Sp.lim 1048576 ay) (Sp.lim 1048576 bx) (Sp.lim 1048576 b_y) (Sp.lim 1048576 cx) (Sp.lim 1048576 cy) (Sp.lim 1048576 dx) (Sp.lim 1048576 dy)) == 0) (fun h1 => ?_) (fun h1 => ?_)
  · have h1p : (((Sp.meetN (Sp.lim 1048576 ax) (Sp.lim 1048576 ay) (Sp.lim 1048576 bx) (Sp.lim 1048576 b_y) (Sp.lim 1048576 cx) (Sp.lim 1048576 cy) (Sp.lim 1048576 dx) (Sp.lim 1048576 dy)) = 0)) := by first | (simpa using h1) | (have h1q := h1; simp at h1q; omega) | (have h1q := bx1 h1; simp at h1q; omega)
    refine aw_p 221 (
      .a 1 5 <| .nil _ _) ?_
    refine aw_rt ?_
    refine block_ret ?_
    refine then_ret ?_
    exact en_ret [.bool true] (show (.bool true : Value) = (.bool (Sp.cornX ax ay bx b_y cx cy dx dy)) from (congrArg Value.bool (show true = (Sp.cornX ax ay bx b_y cx cy dx dy) from by (unfold Sp.cornX Sp.eqQ; simp only [h1, if_true, if_false, Bool.false_eq_true, eq_self]))))
  · have h1p : ¬ (((Sp.meetN (Sp.lim 1048576 ax) (Sp.lim 1048576 ay) (Sp.lim 1048576 bx) (Sp.lim 1048576 b_y) (Sp.lim 1048576 cx) (Sp.lim 1048576 cy) (Sp.lim 1048576 dx) (Sp.lim 1048576 dy)) = 0)) := by first | (simpa using h1) | (have h1q := h1; simp at h1q; omega) | (have h1q := bx2 h1; simp at h1q; omega)
    refine aw_p 223 (
      .a 2 5 <| .nil _ _) ?_
    refine aw_cd 446 447 ((Sp.meetN (Sp.lim 1048576 ax) (Sp.lim 1048576 ay) (Sp.lim 1048576 bx) (Sp.lim 1048576 b_y) (Sp.lim 1048576 cx) (Sp.lim 1048576 cy) (Sp.lim 1048576 dx) (Sp.lim 1048576 dy)) == 1) (fun h2 => ?_) (fun h2 => ?_)
    · have h2p : (((Sp.meetN (Sp.lim 1048576 ax) (Sp.lim 1048576 ay) (Sp.lim 1048576 bx) (Sp.lim 1048576 b_y) (Sp.lim 1048576 cx) (Sp.lim 1048576 cy) (Sp.lim 1048576 dx) (Sp.lim 1048576 dy)) = 1)) := by first | (simpa using h2) | (have h2q := h2; simp at h2q; omega) | (have h2q := bx1 h2; simp at h2q; omega)
      rcases Bool.eq_false_or_eq_true (((ax == cx) && ((ay == cy) && true))) with h3 | h3
      · have h3p : ((ax = cx ∧ ay = cy)) := by first | (simpa using h3) | (have h3q := h3; simp at h3q; omega) | (have h3q := bx1 h3; simp at h3q; omega)
        refine aw_p 893 (
          .a 2 5 <| .p (does_e true (h3)) <| .a 16 5 <| .nil _ _) ?_
        refine aw_rt ?_
        refine block_ret ?_
        refine then_ret ?_
        exact en_ret [.bool true] (show (.bool true : Value) = (.bool (Sp.cornX ax ay bx b_y cx cy dx dy)) from (congrArg Value.bool (show true = (Sp.cornX ax ay bx b_y cx cy dx dy) from by (unfold Sp.cornX Sp.eqQ; simp only [h1, h2, h3, if_true, if_false, Bool.false_eq_true, eq_self]))))
      · have h3p : ¬ ((ax = cx ∧ ay = cy)) := by first | (simpa using h3) | (have h3q := h3; simp at h3q; omega) | (have h3q := bx2 h3; simp at h3q; omega)
        rcases Bool.eq_false_or_eq_true (((ax == dx) && ((ay == dy) && true))) with h4 | h4
        · have h4p : ((ax = dx ∧ ay = dy)) := by first | (simpa using h4) | (have h4q := h4; simp at h4q; omega) | (have h4q := bx1 h4; simp at h4q; omega)
          refine aw_p 893 (
            .a 2 5 <| .p (does_e false (h3)) <| .a 3 5 <| .p (does_e true (h4)) <| .a 12 5 <| .nil _ _) ?_
          refine aw_rt ?_
          refine block_ret ?_
          refine then_ret ?_
          exact en_ret [.bool true] (show (.bool true : Value) = (.bool (Sp.cornX ax ay bx b_y cx cy dx dy)) from (congrArg Value.bool (show true = (Sp.cornX ax ay bx b_y cx cy dx dy) from by (unfold Sp.cornX Sp.eqQ; simp only [h1, h2, h3, h4, if_true, if_false, Bool.false_eq_true, eq_self]))))
        · have h4p : ¬ ((ax = dx ∧ ay = dy)) := by first | (simpa using h4) | (have h4q := h4; simp at h4q; omega) | (have h4q := bx2 h4; simp at h4q; omega)
          rcases Bool.eq_false_or_eq_true (((bx == cx) && ((b_y == cy) && true))) with h5 | h5
          · have h5p : ((bx = cx ∧ b_y = cy)) := by first | (simpa using h5) | (have h5q := h5; simp at h5q; omega) | (have h5q := bx1 h5; simp at h5q; omega)
            refine aw_p 893 (
              .a 2 5 <| .p (does_e false (h3)) <| .a 3 5 <| .p (does_e false (h4)) <| .a 4 5 <| .p (does_e true (h5)) <| .a 7 5 <| .nil _ _) ?_
            refine aw_rt ?_
            refine block_ret ?_
            refine then_ret ?_
            exact en_ret [.bool true] (show (.bool true : Value) = (.bool (Sp.cornX ax ay bx b_y cx cy dx dy)) from (congrArg Value.bool (show true = (Sp.cornX ax ay bx b_y cx cy dx dy) from by (unfold Sp.cornX Sp.eqQ; simp only [h1, h2, h3, h4, h5, if_true, if_false, Bool.false_eq_true, eq_self]))))
          · have h5p : ¬ ((bx = cx ∧ b_y = cy)) := by first | (simpa using h5) | (have h5q := h5; simp at h5q; omega) | (have h5q := bx2 h5; simp at h5q; omega)
            refine aw_p 893 (
              .a 2 5 <| .p (does_e false (h3)) <| .a 3 5 <| .p (does_e false (h4)) <| .a 4 5 <| .p (does_e false (h5)) <| .a 4 5 <| .p (does_e ((bx == dx) && ((b_y == dy) && true)) (rfl)) <| .a 2 5 <| .nil _ _) ?_
            refine aw_rt ?_
            refine block_ret ?_
            refine then_ret ?_
            exact en_ret [.bool ((bx == dx) && ((b_y == dy) && true))] (show (.bool ((bx == dx) && ((b_y == dy) && true)) : Value) = (.bool (Sp.cornX ax ay bx b_y cx cy dx dy)) from (congrArg Value.bool (show ((bx == dx) && ((b_y == dy) && true)) = (Sp.cornX ax ay bx b_y cx cy dx dy) from by (unfold Sp.cornX Sp.eqQ; simp only [h1, h2, h3, h4, h5, if_true, if_false, Bool.false_eq_true, eq_self]))))
    · have h2p : ¬ (((Sp.meetN (Sp.lim 1048576 ax) (Sp.lim 1048576 ay) (Sp.lim 1048576 bx) (Sp.lim 1048576 b_y) (Sp.lim 1048576 cx) (Sp.lim 1048576 cy) (Sp.lim 1048576 dx) (Sp.lim 1048576 dy)) = 1)) := by first | (simpa using h2) | (have h2q := h2; simp at h2q; omega) | (have h2q := bx2 h2; simp at h2q; omega)
      refine aw_sk ?_
      refine block_normal ?_
      refine then_normal ?_
      refine aw_p 15 (
        .a 1 5 <| .nil _ _) ?_
      refine aw_rt ?_
      exact en_ret [.bool false] (show (.bool false : Value) = (.bool (Sp.cornX ax ay bx b_y cx cy dx dy)) from (congrArg Value.bool (show false = (Sp.cornX ax ay bx b_y cx cy dx dy) from by (unfold Sp.cornX Sp.eqQ; simp only [h1, h2, if_true, if_false, Bool.false_eq_true, eq_self]))))
theorem ixi_nil (v : Int) :
    AC Try.prog 152 0 ([.slice none 0 0, .int .i64 v]) [] (.int .i64 (-1)) [] := by
  refine ac_in Try.func152 (fun w0 W pin => ?_)
  refine aw_p 3 (
    .a 1 1 <| .nil _ _) ?_
  refine aw_sq 6 7 ?_
  refine aw_p 13 (
    .a 3 1 <| .nil _ _) ?_
  refine aw_bl 0 27 ?_
  refine aw_lp 55 ?_
  refine al_round ?_
  refine aw_p 111 (
    .a 1 1 <| .nil _ _) ?_
  refine aw_sq 222 223 ?_
  refine aw_fl 445 ?_
  refine aw_ex 0 ?_
  refine then_exit ?_
  refine then_exit ?_
  refine block_exit ?_
  refine then_normal ?_
  refine aw_p 15 (
    .a 1 1 <| .nil _ _) ?_
  refine aw_rt ?_
  exact en_ret [.int .i64 (-1)] (by kernel_rfl)
theorem ixi_one (v : Int) :
    AC Try.prog 152 1 ([sV 0 1, .int .i64 v]) [(0, ⟨[.int .i64 v], 3, true, 1⟩)] (.int .i64 0) [(0, ⟨[.int .i64 v], 3, true, 1⟩)] := by
  refine ac_in Try.func152 (fun w0 W pin => ?_)
  refine aw_p 3 (
    .a 1 1 <| .nil _ _) ?_
  refine aw_sq 6 7 ?_
  refine aw_p 13 (
    .a 3 1 <| .nil _ _) ?_
  refine aw_bl 0 27 ?_
  refine aw_lp 55 ?_
  refine al_round ?_
  refine aw_p 111 (
    .a 1 1 <| .nil _ _) ?_
  refine aw_sq 222 223 ?_
  refine aw_tr 444 ?_
  refine aw_sk ?_
  refine then_normal ?_
  refine aw_sq 446 447 ?_
  refine aw_bl 1 893 ?_
  refine aw_p 1787 (
    .a 2 1 <| .nil _ _) ?_
  refine aw_p 3575 (
    .a 5 1 <| .p (does_b true ((show (v == v) = true from by simp))) <| .nil _ _) ?_
  refine aw_tr 7150 ?_
  refine aw_p 14301 (
    .a 2 1 <| .nil _ _) ?_
  refine aw_rt ?_
  refine block_ret ?_
  refine then_ret ?_
  refine then_ret ?_
  refine block_ret ?_
  refine then_ret ?_
  exact en_ret [.int .i64 0] (by kernel_rfl)
theorem cti_nil (v : Int) :
    AC Try.prog 121 0 ([.slice none 0 0, .int .i64 v]) [] (.bool false) [] := by
  refine ac_in Try.func121 (fun w0 W pin => ?_)
  refine aw_p 3 (
    .a 1 1 <| .nil _ _) ?_
  refine aw_p 7 (
    .a 2 1 <| .p (does_c (ixi_nil v)) <| .a 2 1 <| .nil _ _) ?_
  refine aw_rt ?_
  exact en_ret [.bool false] (by kernel_rfl)
theorem cti_one (v : Int) :
    AC Try.prog 121 1 ([sV 0 1, .int .i64 v]) [(0, ⟨[.int .i64 v], 3, true, 1⟩)] (.bool true) [(0, ⟨[.int .i64 v], 3, true, 1⟩)] := by
  refine ac_in Try.func121 (fun w0 W pin => ?_)
  refine aw_p 3 (
    .a 1 1 <| .nil _ _) ?_
  refine aw_p 7 (
    .a 2 1 <| .p (does_k [0] (ixi_one v)) <| .a 2 1 <| .nil _ _) ?_
  refine aw_rt ?_
  exact en_ret [.bool true] (by kernel_rfl)
end Go.Proofs.Ytndkhgfecnbmnaa.Am

namespace Go.Proofs.Ytndkhgfecnbmnaa.Am
open Go Go.Proofs
set_option maxRecDepth 100000
set_option maxHeartbeats 4000000
set_option linter.unusedVariables false
set_option linter.unusedSimpArgs false
theorem sides_ok (ps qs : List (Int × Int)) (v : Int) (zps : 1 ≤ ps.length ∧ ps.length ≤ 200) (fps : Sp.Few 1000 ps) (zqs : 1 ≤ qs.length ∧ qs.length ≤ 200) (fqs : Sp.Few 1000 qs) (hs : Sp.sdAll ps qs v = true) :
    AC Try.prog 99 2 ([sV 0 ps.length, sV 1 qs.length]) [(0, (pB ps)), (1, (pB qs))] (sV 2 1) [(0, (pB ps)), (1, (pB qs)), (2, ⟨[.int .i64 v], 3, true, 1⟩)] := by
  refine ac_in Try.func99 (fun w0 W pin => ?_)
  refine aw_p 3 (
    .a 1 3 <| .nil _ _) ?_
  refine aw_p 7 (
    .a 1 3 <| .nil _ _) ?_
  refine aw_sq 14 15 ?_
  refine aw_p 29 (
    .a 3 3 <| .nil _ _) ?_
  refine aw_bl 0 59 ?_
  refine aw_lp 119 ?_
  refine al_round ?_
  refine aw_p 239 (
    .a 1 3 <| .nil _ _) ?_
  refine aw_sq 478 479 ?_
  refine aw_cd 956 957 (decide (0 < ((ps.length : Nat) : Int))) (fun h1 => ?_) (fun h1 => ?_)
  · have h1p : ((0 < ((ps.length : Nat) : Int))) := by first | (simpa using h1) | (have h1q := h1; simp at h1q; omega) | (have h1q := bx1 h1; simp at h1q; omega)
    refine aw_sk ?_
    refine then_normal ?_
    refine aw_sq 958 959 ?_
    refine aw_bl 1 1917 ?_
    refine aw_p 3835 (
      .a 2 3 <| .nil _ _) ?_
    refine aw_p 7671 (
      .a 3 3 <|
      .p (cS (m := 2) (args0 := [sV 0 ps.length, .int .i64 0, sV 1 qs.length]) (pre0 := [(0, (pB ps)), (1, (pB qs))]) (v0 := .int .i64 v) #[.tmp 13, .tmp 14, .tmp 15] #[30, 3, 30] [sV 0 ps.length, .int .i64 0, sV 1 qs.length] [0, 1] [(0, (pB ps)), (1, (pB qs))] (.int .i64 v) ((by have h := side_ok ps qs zps fps zqs fqs 0 (by omega); rw [Sp.side_at hs (by omega)] at h; exact h)) (.cons rS (.cons rF (.cons rS .nil))) ⟨rfl, bP, rfl, bP, trivial⟩ rF) <|
      .a 1 3 <| .nil _ _) ?_
    refine aw_p 15343 (
      .a 2 3 <| .p (does_c (cti_nil v)) <| .a 1 3 <| .nil _ _) ?_
    refine aw_tr 30686 ?_
    refine aw_p1 (
      .a 3 3 <| .p (does_ap 4) <| .a 1 5 <| .nil _ _) ?_
    refine block_normal ?_
    refine then_normal ?_
    refine aw_p1 (
      .a 2 5 <| .nil _ _) ?_
    refine then_normal ?_
    refine al_w [(0, sV 0 ps.length), (1, sV 1 qs.length), (5, sV 4 1), (9, .int .i64 ((ps.length : Nat) : Int)), (10, .int .i64 ((1 : Nat) : Int))] [(0, (pB ps)), (1, (pB qs)), (4, ⟨[.int .i64 v], 3, true, 1⟩)] ?_ (hc := (by simp [closedB, valsB, valB, List.all_eq_true, List.mem_flatMap, List.mem_range, List.mem_map, i64v, ptc, flat1]; try (intros; simp [valsB, valB, flat1]); try decide))
    refine al_ind (fun i : Nat => (fun (i : Nat) => mkSt 2 [(0, sV 0 ps.length), (1, sV 1 qs.length), (5, sV 4 1), (9, .int .i64 ((ps.length : Nat) : Int)), (10, .int .i64 ((i : Nat) : Int))] [(0, (pB ps)), (1, (pB qs)), (4, ⟨[.int .i64 v], 3, true, 1⟩)]) i) (fun i : Nat => (fun (i : Nat) => (1 ≤ i ∧ i ≤ ps.length)) i) (fun i : Nat => (fun (i : Nat) => ps.length - i) i) (fun i hi1 ih1 => ?_) 1 (show (1 ≤ 1 ∧ 1 ≤ ps.length) from by omega)
    obtain ⟨i, hv1⟩ : ∃ z, z = i := ⟨i, rfl⟩; subst hv1
    have hi1' : (1 ≤ i ∧ i ≤ ps.length) := hi1
    have hi : 1 ≤ i ∧ i ≤ ps.length := hi1'
    show AL _ _ _ (mkSt 2 [(0, sV 0 ps.length), (1, sV 1 qs.length), (5, sV 4 1), (9, .int .i64 ((ps.length : Nat) : Int)), (10, .int .i64 ((i : Nat) : Int))] [(0, (pB ps)), (1, (pB qs)), (4, ⟨[.int .i64 v], 3, true, 1⟩)]) _
    refine al_round ?_
    refine aw_p 239 (
      .a 1 5 <| .nil _ _) ?_
    refine aw_sq 478 479 ?_
    refine aw_cd 956 957 (decide (((i : Nat) : Int) < ((ps.length : Nat) : Int))) (fun h2 => ?_) (fun h2 => ?_)
    · have h2p : ((((i : Nat) : Int) < ((ps.length : Nat) : Int))) := by first | (simpa using h2) | (have h2q := h2; simp at h2q; omega) | (have h2q := bx1 h2; simp at h2q; omega)
      refine aw_sk ?_
      refine then_normal ?_
      refine aw_sq 958 959 ?_
      refine aw_bl 1 1917 ?_
      refine aw_p 3835 (
        .a 2 5 <| .nil _ _) ?_
      refine aw_p 7671 (
        .a 3 5 <|
        .p (cS (m := 2) (args0 := [sV 0 ps.length, .int .i64 ((i : Nat) : Int), sV 1 qs.length]) (pre0 := [(0, (pB ps)), (1, (pB qs))]) (v0 := .int .i64 v) #[.tmp 13, .tmp 14, .tmp 15] #[30, 3, 30] [sV 0 ps.length, .int .i64 ((i : Nat) : Int), sV 1 qs.length] [0, 1] [(0, (pB ps)), (1, (pB qs))] (.int .i64 v) ((by have h := side_ok ps qs zps fps zqs fqs i (by omega); rw [Sp.side_at hs (by omega)] at h; exact h)) (.cons rS (.cons rF (.cons rS .nil))) ⟨rfl, bP, rfl, bP, trivial⟩ rF) <|
        .a 1 5 <| .nil _ _) ?_
      refine aw_p 15343 (
        .a 2 5 <| .p (does_k [4] (cti_one v)) <| .a 1 5 <| .nil _ _) ?_
      refine aw_fl 30687 ?_
      refine aw_sk ?_
      refine block_normal ?_
      refine then_normal ?_
      refine aw_p1 (
        .p (does_i (((i : Nat) : Int) + 1) (wrap_i64 (by omega) (by omega)) .i64) <| .a 1 5 <| .nil _ _) ?_
      refine then_normal ?_
      refine al_w [(0, sV 0 ps.length), (1, sV 1 qs.length), (5, sV 4 1), (9, .int .i64 ((ps.length : Nat) : Int)), (10, .int .i64 (((i + 1) : Nat) : Int))] [(0, (pB ps)), (1, (pB qs)), (4, ⟨[.int .i64 v], 3, true, 1⟩)] ?_ (hc := (by simp [closedB, valsB, valB, List.all_eq_true, List.mem_flatMap, List.mem_range, List.mem_map, i64v, ptc, flat1]; try (intros; simp [valsB, valB, flat1]); try decide))
      exact ih1 (i + 1) (show (1 ≤ (i + 1) ∧ (i + 1) ≤ ps.length) from by omega) (show ps.length - (i + 1) < ps.length - i from by omega)
    · have h2p : ¬ ((((i : Nat) : Int) < ((ps.length : Nat) : Int))) := by first | (simpa using h2) | (have h2q := h2; simp at h2q; omega) | (have h2q := bx2 h2; simp at h2q; omega)
      refine aw_ex 0 ?_
      refine then_exit ?_
      refine then_exit ?_
      refine block_exit ?_
      refine then_normal ?_
      refine aw_p 31 (
        .a 2 5 <| .nil _ _) ?_
      refine aw_r [(2, 4)] [(4, sV 4 1)] [(0, (pB ps)), (1, (pB qs)), (4, ⟨[.int .i64 v], 3, true, 1⟩)] [(4, sV 2 1)] [(0, (pB ps)), (1, (pB qs)), (2, ⟨[.int .i64 v], 3, true, 1⟩)] ?_ ⟨rfl, (rK rfl), trivial⟩ ⟨rfl, ⟨rfl, rfl, rfl, (.flats (flats_pair _))⟩, rfl, ⟨rfl, rfl, rfl, (.flats (flats_pair _))⟩, rfl, ⟨rfl, rfl, rfl, (.flats (by kernel_rfl))⟩, trivial⟩
      refine aw_rt ?_
      exact en_ret [sV 2 1] (by kernel_rfl)
  · have h1p : ¬ ((0 < ((ps.length : Nat) : Int))) := by first | (simpa using h1) | (have h1q := h1; simp at h1q; omega) | (have h1q := bx2 h1; simp at h1q; omega)
    exact absurd zps.1 (by omega)
end Go.Proofs.Ytndkhgfecnbmnaa.Am

namespace Go.Proofs.Ytndkhgfecnbmnaa.Am
open Go Go.Proofs
set_option maxRecDepth 100000
set_option maxHeartbeats 4000000
set_option linter.unusedVariables false
set_option linter.unusedSimpArgs false
theorem fits_ok (ps qs : List (Int × Int)) (v w : Int) (zps : 1 ≤ ps.length ∧ ps.length ≤ 200) (fps : Sp.Few 1000 ps) (zqs : 1 ≤ qs.length ∧ qs.length ≤ 200) (fqs : Sp.Few 1000 qs) (hF : Sp.Fit ps qs v w) :
    AC Try.prog 60 2 ([sV 0 ps.length, sV 1 qs.length]) [(0, (pB ps)), (1, (pB qs))] (.bool true) [(0, (pB ps)), (1, (pB qs))] := by
  refine ac_in Try.func60 (fun w0 W pin => ?_)
  refine aw_p 3 (
    .a 1 2 <| .nil _ _) ?_
  refine aw_sq 6 7 ?_
  refine aw_p 13 (
    .a 3 2 <| .nil _ _) ?_
  refine aw_bl 0 27 ?_
  refine aw_lp 55 ?_
  refine al_w [(0, sV 0 ps.length), (1, sV 1 qs.length), (8, .int .i64 ((ps.length : Nat) : Int)), (9, .int .i64 ((0 : Nat) : Int))] [(0, (pB ps)), (1, (pB qs))] ?_ (hc := (by simp [closedB, valsB, valB, List.all_eq_true, List.mem_flatMap, List.mem_range, List.mem_map, i64v, ptc, flat1]; try (intros; simp [valsB, valB, flat1]); try decide))
  refine al_ind (fun i : Nat => (fun (u : Nat) => mkSt 2 [(0, sV 0 ps.length), (1, sV 1 qs.length), (8, .int .i64 ((ps.length : Nat) : Int)), (9, .int .i64 ((u : Nat) : Int))] [(0, (pB ps)), (1, (pB qs))]) i) (fun i : Nat => (fun (u : Nat) => (u ≤ ps.length)) i) (fun i : Nat => (fun (u : Nat) => ps.length - u) i) (fun i hi1 ih1 => ?_) 0 (show (0 ≤ ps.length) from by omega)
  obtain ⟨u, hv1⟩ : ∃ z, z = i := ⟨i, rfl⟩; subst hv1
  have hi1' : (u ≤ ps.length) := hi1
  have hu : u ≤ ps.length := hi1'
  show AL _ _ _ (mkSt 2 [(0, sV 0 ps.length), (1, sV 1 qs.length), (8, .int .i64 ((ps.length : Nat) : Int)), (9, .int .i64 ((u : Nat) : Int))] [(0, (pB ps)), (1, (pB qs))]) _
  refine al_round ?_
  refine aw_p 111 (
    .a 1 2 <| .nil _ _) ?_
  refine aw_sq 222 223 ?_
  refine aw_cd 444 445 (decide (((u : Nat) : Int) < ((ps.length : Nat) : Int))) (fun h1 => ?_) (fun h1 => ?_)
  · have h1p : ((((u : Nat) : Int) < ((ps.length : Nat) : Int))) := by first | (simpa using h1) | (have h1q := h1; simp at h1q; omega) | (have h1q := bx1 h1; simp at h1q; omega)
    have hul : u < ps.length := (by omega); obtain ⟨u2, hu2⟩ : ∃ j, (u + 1) % ps.length = j := ⟨_, rfl⟩; have hu2l : u2 < ps.length := hu2 ▸ Nat.mod_lt _ (by omega)
    refine aw_sk ?_
    refine then_normal ?_
    refine aw_sq 446 447 ?_
    refine aw_bl 1 893 ?_
    refine aw_p 1787 (
      .a 2 2 <| .nil _ _) ?_
    refine aw_p 3575 (
      .a 3 2 <| .nil _ _) ?_
    refine aw_bl 2 7151 ?_
    refine aw_lp 14303 ?_
    refine al_w [(0, sV 0 ps.length), (1, sV 1 qs.length), (5, .int .i64 ((u : Nat) : Int)), (8, .int .i64 ((ps.length : Nat) : Int)), (9, .int .i64 ((u : Nat) : Int)), (13, .int .i64 ((qs.length : Nat) : Int)), (14, .int .i64 ((0 : Nat) : Int))] [(0, (pB ps)), (1, (pB qs))] ?_ (hc := (by simp [closedB, valsB, valB, List.all_eq_true, List.mem_flatMap, List.mem_range, List.mem_map, i64v, ptc, flat1]; try (intros; simp [valsB, valB, flat1]); try decide))
    refine al_ind (fun i : Nat => (fun (k : Nat) => mkSt 2 [(0, sV 0 ps.length), (1, sV 1 qs.length), (5, .int .i64 ((u : Nat) : Int)), (8, .int .i64 ((ps.length : Nat) : Int)), (9, .int .i64 ((u : Nat) : Int)), (13, .int .i64 ((qs.length : Nat) : Int)), (14, .int .i64 ((k : Nat) : Int))] [(0, (pB ps)), (1, (pB qs))]) i) (fun i : Nat => (fun (k : Nat) => (k ≤ qs.length)) i) (fun i : Nat => (fun (k : Nat) => qs.length - k) i) (fun i hi2 ih2 => ?_) 0 (show (0 ≤ qs.length) from by omega)
    obtain ⟨k, hv2⟩ : ∃ z, z = i := ⟨i, rfl⟩; subst hv2
    have hi2' : (k ≤ qs.length) := hi2
    have hk : k ≤ qs.length := hi2'
    show AL _ _ _ (mkSt 2 [(0, sV 0 ps.length), (1, sV 1 qs.length), (5, .int .i64 ((u : Nat) : Int)), (8, .int .i64 ((ps.length : Nat) : Int)), (9, .int .i64 ((u : Nat) : Int)), (13, .int .i64 ((qs.length : Nat) : Int)), (14, .int .i64 ((k : Nat) : Int))] [(0, (pB ps)), (1, (pB qs))]) _
    refine al_round ?_
    refine aw_p 28607 (
      .a 1 2 <| .nil _ _) ?_
    refine aw_sq 57214 57215 ?_
    refine aw_cd 114428 114429 (decide (((k : Nat) : Int) < ((qs.length : Nat) : Int))) (fun h2 => ?_) (fun h2 => ?_)
    · have h2p : ((((k : Nat) : Int) < ((qs.length : Nat) : Int))) := by first | (simpa using h2) | (have h2q := h2; simp at h2q; omega) | (have h2q := bx1 h2; simp at h2q; omega)
      have hkl : k < qs.length := (by omega); obtain ⟨k2, hk2⟩ : ∃ j, (k + 1) % qs.length = j := ⟨_, rfl⟩; have hk2l : k2 < qs.length := hk2 ▸ Nat.mod_lt _ (by omega)
      refine aw_sk ?_
      refine then_normal ?_
      refine aw_sq 114430 114431 ?_
      refine aw_bl 3 228861 ?_
      refine aw_p 457723 (
        .a 2 2 <| .nil _ _) ?_
      refine aw_d 915447 (
        .a 2 2 <| .p (does_indexSlice (t := 30) (x := .tmp 17) (y := .tmp 18) (k := 0) (off := 0) (n := ps.length) (c := 0) (z := 2) (kd := .i64) (j := ((u : Nat) : Int)) (by kernel_rfl) (by kernel_rfl) (by kernel_rfl) (by kernel_rfl) (by kernel_rfl) (by omega) (by omega)) <|
        .p (does_load (t := 28) (x := .tmp 19) (k := 0) (off := (0 + (((u : Nat) : Int)).toNat * 2)) (b := (pB ps)) (v := .agg #[.int .i64 ((ps.getD u (0, 0)).1), .int .i64 ((ps.getD u (0, 0)).2)]) (by kernel_rfl) (by kernel_rfl) (by kernel_rfl) (ldV_pair (j := u) (by kernel_rfl) (by kernel_rfl) (by omega) (by omega))) <|
        .a 2 2 <| .p (does_i (((u : Nat) : Int) + 1) (wrap_i64 (by omega) (by omega)) .i64) <| .a 2 2 <|
        .p (does_int (n' := ((u2 : Nat) : Int)) (does_rem (t := 3) (t2 := 3) (x := .tmp 23) (y := .tmp 25) (k := .i64) (a := (((u : Nat) : Int) + 1)) (b := ((ps.length : Nat) : Int)) (by kernel_rfl) (by kernel_rfl) (by kernel_rfl) (by omega)) ((show (Int.tmod (((u : Nat) : Int) + 1) ((ps.length : Nat) : Int)) = ((u2 : Nat) : Int) from (by rw [← hu2]; exact rfl)))) <|
        .p (does_indexSlice (t := 30) (x := .tmp 21) (y := .tmp 26) (k := 0) (off := 0) (n := ps.length) (c := 0) (z := 2) (kd := .i64) (j := ((u2 : Nat) : Int)) (by kernel_rfl) (by kernel_rfl) (by kernel_rfl) (by kernel_rfl) (by kernel_rfl) (by omega) (by omega)) <|
        .p (does_load (t := 28) (x := .tmp 27) (k := 0) (off := (0 + (((u2 : Nat) : Int)).toNat * 2)) (b := (pB ps)) (v := .agg #[.int .i64 ((ps.getD u2 (0, 0)).1), .int .i64 ((ps.getD u2 (0, 0)).2)]) (by kernel_rfl) (by kernel_rfl) (by kernel_rfl) (ldV_pair (j := u2) (by kernel_rfl) (by kernel_rfl) (by omega) (by omega))) <|
        .a 2 2 <| .p (does_indexSlice (t := 30) (x := .tmp 29) (y := .tmp 30) (k := 1) (off := 0) (n := qs.length) (c := 0) (z := 2) (kd := .i64) (j := ((k : Nat) : Int)) (by kernel_rfl) (by kernel_rfl) (by kernel_rfl) (by kernel_rfl) (by kernel_rfl) (by omega) (by omega)) <|
        .p (does_load (t := 28) (x := .tmp 31) (k := 1) (off := (0 + (((k : Nat) : Int)).toNat * 2)) (b := (pB qs)) (v := .agg #[.int .i64 ((qs.getD k (0, 0)).1), .int .i64 ((qs.getD k (0, 0)).2)]) (by kernel_rfl) (by kernel_rfl) (by kernel_rfl) (ldV_pair (j := k) (by kernel_rfl) (by kernel_rfl) (by omega) (by omega))) <|
        .a 2 2 <| .p (does_i (((k : Nat) : Int) + 1) (wrap_i64 (by omega) (by omega)) .i64) <| .a 2 2 <|
        .p (does_int (n' := ((k2 : Nat) : Int)) (does_rem (t := 3) (t2 := 3) (x := .tmp 35) (y := .tmp 37) (k := .i64) (a := (((k : Nat) : Int) + 1)) (b := ((qs.length : Nat) : Int)) (by kernel_rfl) (by kernel_rfl) (by kernel_rfl) (by omega)) ((show (Int.tmod (((k : Nat) : Int) + 1) ((qs.length : Nat) : Int)) = ((k2 : Nat) : Int) from (by rw [← hk2]; exact rfl)))) <|
        .p (does_indexSlice (t := 30) (x := .tmp 33) (y := .tmp 38) (k := 1) (off := 0) (n := qs.length) (c := 0) (z := 2) (kd := .i64) (j := ((k2 : Nat) : Int)) (by kernel_rfl) (by kernel_rfl) (by kernel_rfl) (by kernel_rfl) (by kernel_rfl) (by omega) (by omega)) <|
        .p (does_load (t := 28) (x := .tmp 39) (k := 1) (off := (0 + (((k2 : Nat) : Int)).toNat * 2)) (b := (pB qs)) (v := .agg #[.int .i64 ((qs.getD k2 (0, 0)).1), .int .i64 ((qs.getD k2 (0, 0)).2)]) (by kernel_rfl) (by kernel_rfl) (by kernel_rfl) (ldV_pair (j := k2) (by kernel_rfl) (by kernel_rfl) (by omega) (by omega))) <|
        .p (does_cb _ (corners_ok ((ps.getD u (0, 0)).1) ((ps.getD u (0, 0)).2) ((ps.getD u2 (0, 0)).1) ((ps.getD u2 (0, 0)).2) ((qs.getD k (0, 0)).1) ((qs.getD k (0, 0)).2) ((qs.getD k2 (0, 0)).1) ((qs.getD k2 (0, 0)).2)) true ((show (Sp.cornX ((ps.getD u (0, 0)).1) ((ps.getD u (0, 0)).2) ((ps.getD u2 (0, 0)).1) ((ps.getD u2 (0, 0)).2) ((qs.getD k (0, 0)).1) ((qs.getD k (0, 0)).2) ((qs.getD k2 (0, 0)).1) ((qs.getD k2 (0, 0)).2)) = true from (by rw [Sp.corn_at hF.1 hul hkl hu2 hk2])))) <|
        .a 1 2 <| .nil _ _) ?_
      refine aw_fl 1830895 ?_
      refine aw_sk ?_
      refine block_normal ?_
      refine then_normal ?_
      refine aw_p1 (
        .p (does_i (((k : Nat) : Int) + 1) (wrap_i64 (by omega) (by omega)) .i64) <| .a 1 2 <| .nil _ _) ?_
      refine then_normal ?_
      refine al_w [(0, sV 0 ps.length), (1, sV 1 qs.length), (5, .int .i64 ((u : Nat) : Int)), (8, .int .i64 ((ps.length : Nat) : Int)), (9, .int .i64 ((u : Nat) : Int)), (13, .int .i64 ((qs.length : Nat) : Int)), (14, .int .i64 (((k + 1) : Nat) : Int))] [(0, (pB ps)), (1, (pB qs))] ?_ (hc := (by simp [closedB, valsB, valB, List.all_eq_true, List.mem_flatMap, List.mem_range, List.mem_map, i64v, ptc, flat1]; try (intros; simp [valsB, valB, flat1]); try decide))
      exact ih2 (k + 1) (show ((k + 1) ≤ qs.length) from by omega) (show qs.length - (k + 1) < qs.length - k from by omega)
    · have h2p : ¬ ((((k : Nat) : Int) < ((qs.length : Nat) : Int))) := by first | (simpa using h2) | (have h2q := h2; simp at h2q; omega) | (have h2q := bx2 h2; simp at h2q; omega)
      refine aw_ex 2 ?_
      refine then_exit ?_
      refine then_exit ?_
      refine block_exit ?_
      refine block_normal ?_
      refine then_normal ?_
      refine aw_p1 (
        .p (does_i (((u : Nat) : Int) + 1) (wrap_i64 (by omega) (by omega)) .i64) <| .a 1 2 <| .nil _ _) ?_
      refine then_normal ?_
      refine al_w [(0, sV 0 ps.length), (1, sV 1 qs.length), (8, .int .i64 ((ps.length : Nat) : Int)), (9, .int .i64 (((u + 1) : Nat) : Int))] [(0, (pB ps)), (1, (pB qs))] ?_ (hc := (by simp [closedB, valsB, valB, List.all_eq_true, List.mem_flatMap, List.mem_range, List.mem_map, i64v, ptc, flat1]; try (intros; simp [valsB, valB, flat1]); try decide))
      exact ih1 (u + 1) (show ((u + 1) ≤ ps.length) from by omega) (show ps.length - (u + 1) < ps.length - u from by omega)
  · have h1p : ¬ ((((u : Nat) : Int) < ((ps.length : Nat) : Int))) := by first | (simpa using h1) | (have h1q := h1; simp at h1q; omega) | (have h1q := bx2 h1; simp at h1q; omega)
    refine aw_ex 0 ?_
    refine then_exit ?_
    refine then_exit ?_
    refine block_exit ?_
    refine then_normal ?_
    refine aw_p 15 (
      .a 2 2 <|
      .p (cF #[.tmp 45, .tmp 46] #[30, 30] [sV 0 ps.length, sV 1 qs.length] 1 [0, 1, 2] [(0, (pB ps)), (1, (pB qs))] [(0, (pB ps)), (1, (pB qs)), (2, ⟨[.int .i64 v], 3, true, 1⟩)] (sV 2 1) (sides_ok ps qs v zps fps zqs fqs hF.2.1) (.cons rS (.cons rS .nil)) ⟨rfl, bP, rfl, bP, trivial⟩ ⟨rfl, bP, rfl, bP, rfl, ⟨rfl, rfl, rfl, (.flats (by kernel_rfl))⟩, trivial⟩ rS) <|
      .a 5 3 <|
      .p (cF #[.tmp 51, .tmp 52] #[30, 30] [sV 1 qs.length, sV 0 ps.length] 1 [1, 0, 3] [(1, (pB qs)), (0, (pB ps))] [(1, (pB qs)), (0, (pB ps)), (3, ⟨[.int .i64 w], 3, true, 1⟩)] (sV 3 1) (sides_ok qs ps w zqs fqs zps fps hF.2.2) (.cons rS (.cons rS .nil)) ⟨rfl, bP, rfl, bP, trivial⟩ ⟨rfl, bP, rfl, bP, rfl, ⟨rfl, rfl, rfl, (.flats (by kernel_rfl))⟩, trivial⟩ rS) <|
      .a 4 4 <| .nil _ _) ?_
    refine aw_rt ?_
    exact en_ret [.bool true] (by kernel_rfl)
end Go.Proofs.Ytndkhgfecnbmnaa.Am

namespace Go.Proofs.Ytndkhgfecnbmnaa.Am
open Go Go.Proofs
set_option maxRecDepth 100000
set_option maxHeartbeats 4000000
set_option linter.unusedVariables false
set_option linter.unusedSimpArgs false
theorem notok_ok (x y : Int) :
    AC Try.prog 84 0 ([.agg #[.int .i64 x, .int .i64 y]]) [] (.bool (Sp.nok (x, y))) [] := by
  refine ac_in Try.func84 (fun w0 W pin => ?_)
  refine aw_p 3 (
    .a 2 1 <| .nil _ _) ?_
  refine aw_p 7 (
    .a 1 2 <| .p (does_c (pok_ok x y)) <| .a 2 2 <| .nil _ _) ?_
  refine aw_rt ?_
  exact en_ret [.bool (!((x == (Sp.lim 1048576 x)) && ((y == (Sp.lim 1048576 y)) && true)))] (show (.bool (!((x == (Sp.lim 1048576 x)) && ((y == (Sp.lim 1048576 y)) && true))) : Value) = (.bool (Sp.nok (x, y))) from (congrArg Value.bool (show (!((x == (Sp.lim 1048576 x)) && ((y == (Sp.lim 1048576 y)) && true))) = (Sp.nok (x, y)) from by rfl)))
theorem ixf_nok_own (ps : List (Int × Int)) (hz : ps.length ≤ 9223372036854775807) :
    AC Try.prog 117 1 ([sV 0 ps.length, .func (.func 84) #[] #[]]) [(0, (pB ps))] (.int .i64 (Sp.ixF Sp.nok ps 0)) [(0, (pB ps))] := by
  refine ac_in Try.func117 (fun w0 W pin => ?_)
  refine aw_p 3 (
    .a 1 1 <| .nil _ _) ?_
  refine aw_sq 6 7 ?_
  refine aw_p 13 (
    .a 3 1 <| .nil _ _) ?_
  refine aw_bl 0 27 ?_
  refine aw_lp 55 ?_
  refine al_w [(0, sV 0 ps.length), (1, .func (.func 84) #[] #[]), (7, .int .i64 ((ps.length : Nat) : Int)), (8, .int .i64 ((0 : Nat) : Int))] [(0, (pB ps))] ?_ (hc := (by simp [closedB, valsB, valB, List.all_eq_true, List.mem_flatMap, List.mem_range, List.mem_map, i64v, ptc, flat1]; try (intros; simp [valsB, valB, flat1]); try decide))
  refine al_ind (fun i : Nat => (fun (i : Nat) => mkSt 1 [(0, sV 0 ps.length), (1, .func (.func 84) #[] #[]), (7, .int .i64 ((ps.length : Nat) : Int)), (8, .int .i64 ((i : Nat) : Int))] [(0, (pB ps))]) i) (fun i : Nat => (fun (i : Nat) => (i ≤ ps.length) ∧ (Sp.ixF Sp.nok ps i = Sp.ixF Sp.nok ps 0)) i) (fun i : Nat => (fun (i : Nat) => ps.length - i) i) (fun i hi1 ih1 => ?_) 0 (show (0 ≤ ps.length) ∧ (Sp.ixF Sp.nok ps 0 = Sp.ixF Sp.nok ps 0) from ⟨by omega, by rfl⟩)
  obtain ⟨i, hv1⟩ : ∃ z, z = i := ⟨i, rfl⟩; subst hv1
  have hi1' : (i ≤ ps.length) ∧ (Sp.ixF Sp.nok ps i = Sp.ixF Sp.nok ps 0) := hi1
  obtain ⟨hi, hh⟩ := hi1'
  show AL _ _ _ (mkSt 1 [(0, sV 0 ps.length), (1, .func (.func 84) #[] #[]), (7, .int .i64 ((ps.length : Nat) : Int)), (8, .int .i64 ((i : Nat) : Int))] [(0, (pB ps))]) _
  refine al_round ?_
  refine aw_p 111 (
    .a 1 1 <| .nil _ _) ?_
  refine aw_sq 222 223 ?_
  refine aw_cd 444 445 (decide (((i : Nat) : Int) < ((ps.length : Nat) : Int))) (fun h1 => ?_) (fun h1 => ?_)
  · have h1p : ((((i : Nat) : Int) < ((ps.length : Nat) : Int))) := by first | (simpa using h1) | (have h1q := h1; simp at h1q; omega) | (have h1q := bx1 h1; simp at h1q; omega)
    have hil : i < ps.length := by omega
    refine aw_sk ?_
    refine then_normal ?_
    refine aw_sq 446 447 ?_
    refine aw_bl 1 893 ?_
    refine aw_p 1787 (
      .a 2 1 <| .nil _ _) ?_
    refine aw_p 3575 (
      .a 3 1 <| .p (does_indexSlice (t := 30) (x := .tmp 12) (y := .tmp 13) (k := 0) (off := 0) (n := ps.length) (c := 0) (z := 2) (kd := .i64) (j := ((i : Nat) : Int)) (by kernel_rfl) (by kernel_rfl) (by kernel_rfl) (by kernel_rfl) (by kernel_rfl) (by omega) (by omega)) <|
      .p (does_load (t := 28) (x := .tmp 14) (k := 0) (off := (0 + (((i : Nat) : Int)).toNat * 2)) (b := (pB ps)) (v := .agg #[.int .i64 ((ps.getD i (0, 0)).1), .int .i64 ((ps.getD i (0, 0)).2)]) (by kernel_rfl) (by kernel_rfl) (by kernel_rfl) (ldV_pair (j := i) (by kernel_rfl) (by kernel_rfl) (by omega) (by omega))) <|
      .p (does_c (notok_ok ((ps.getD i (0, 0)).1) ((ps.getD i (0, 0)).2))) <| .nil _ _) ?_
    refine aw_cd 7150 7151 (Sp.nok ((ps.getD i (0, 0)).1, (ps.getD i (0, 0)).2)) (fun h2 => ?_) (fun h2 => ?_)
    · refine aw_p 14301 (
        .a 2 1 <| .nil _ _) ?_
      refine aw_rt ?_
      refine block_ret ?_
      refine then_ret ?_
      refine then_ret ?_
      refine block_ret ?_
      refine then_ret ?_
      exact en_ret [.int .i64 ((i : Nat) : Int)] (show (.int .i64 ((i : Nat) : Int) : Value) = (.int .i64 (Sp.ixF Sp.nok ps 0)) from (congrArg (Value.int .i64) (show ((i : Nat) : Int) = (Sp.ixF Sp.nok ps 0) from by (first | exact (by rw [← hh, Sp.ixF_yes hil (by assumption)]) | exact (by rw [← hh, Sp.ixF_end hge])))))
    · refine aw_sk ?_
      refine block_normal ?_
      refine then_normal ?_
      refine aw_p1 (
        .p (does_i (((i : Nat) : Int) + 1) (wrap_i64 (by omega) (by omega)) .i64) <| .a 1 1 <| .nil _ _) ?_
      refine then_normal ?_
      refine al_w [(0, sV 0 ps.length), (1, .func (.func 84) #[] #[]), (7, .int .i64 ((ps.length : Nat) : Int)), (8, .int .i64 (((i + 1) : Nat) : Int))] [(0, (pB ps))] ?_ (hc := (by simp [closedB, valsB, valB, List.all_eq_true, List.mem_flatMap, List.mem_range, List.mem_map, i64v, ptc, flat1]; try (intros; simp [valsB, valB, flat1]); try decide))
      exact ih1 (i + 1) (show ((i + 1) ≤ ps.length) ∧ (Sp.ixF Sp.nok ps (i + 1) = Sp.ixF Sp.nok ps 0) from ⟨by omega, by (rw [← hh]; exact Sp.ixF_no hil (by assumption))⟩) (show ps.length - (i + 1) < ps.length - i from by omega)
  · have h1p : ¬ ((((i : Nat) : Int) < ((ps.length : Nat) : Int))) := by first | (simpa using h1) | (have h1q := h1; simp at h1q; omega) | (have h1q := bx2 h1; simp at h1q; omega)
    have hge : ¬ i < ps.length := by omega
    refine aw_ex 0 ?_
    refine then_exit ?_
    refine then_exit ?_
    refine block_exit ?_
    refine then_normal ?_
    refine aw_p 15 (
      .a 1 1 <| .nil _ _) ?_
    refine aw_rt ?_
    exact en_ret [.int .i64 (-1)] (show (.int .i64 (-1) : Value) = (.int .i64 (Sp.ixF Sp.nok ps 0)) from (congrArg (Value.int .i64) (show (-1) = (Sp.ixF Sp.nok ps 0) from by (first | exact (by rw [← hh, Sp.ixF_yes hil (by assumption)]) | exact (by rw [← hh, Sp.ixF_end hge])))))
theorem ixf_nokn_own (ps : List (Int × Int)) (N : Nat) (hN : ps.length = N) (hz : N ≤ 9223372036854775807) : AC Try.prog 117 1 [.slice (some ⟨0, 0, none⟩) N 0, .func (.func 84) #[] #[]] [(0, ⟨(ps.flatMap ptc), 28, true, 2⟩)] (.int .i64 (Sp.ixF Sp.nok ps 0)) [(0, ⟨(ps.flatMap ptc), 28, true, 2⟩)] := by
  subst hN
  exact ixf_nok_own ps hz
end Go.Proofs.Ytndkhgfecnbmnaa.Am

namespace Go.Proofs.Ytndkhgfecnbmnaa.Am
open Go Go.Proofs
set_option maxRecDepth 100000
set_option maxHeartbeats 4000000
set_option linter.unusedVariables false
set_option linter.unusedSimpArgs false
theorem ctf_nok_own (ps : List (Int × Int)) (hz : ps.length ≤ 9223372036854775807) :
    AC Try.prog 83 1 ([sV 0 ps.length, .func (.func 84) #[] #[]]) [(0, (pB ps))] (.bool (ps.any Sp.nok)) [(0, (pB ps))] := by
  refine ac_in Try.func83 (fun w0 W pin => ?_)
  refine aw_p 3 (
    .a 1 1 <| .nil _ _) ?_
  refine aw_p 7 (
    .a 2 1 <| .p (cS #[.tmp 5, .tmp 6] #[30, 102] [sV 0 ps.length, .func (.func 84) #[] #[]] [0] [(0, (pB ps))] (.int .i64 (Sp.ixF Sp.nok ps 0)) (ixf_nokn_own ps ps.length (rfl) (by first | omega | decide)) (.cons rS (.cons rF .nil)) ⟨rfl, bP, trivial⟩ rF) <|
    .p (does_b (ps.any Sp.nok) (Sp.ixF_any _ _)) <| .a 1 1 <| .nil _ _) ?_
  refine aw_rt ?_
  exact en_ret [.bool (ps.any Sp.nok)] (by kernel_rfl)
theorem apart_own (ps : List (Int × Int)) (hz : ps.length ≤ 9223372036854775807) (k i k2 i2 : Nat) (hk : k < ps.length) (hi : i < ps.length) (hk2 : (k + 1) % ps.length = k2) (hi2 : (i + 1) % ps.length = i2) :
    AC Try.prog 86 1 ([sV 0 ps.length, .int .i64 ((k : Nat) : Int), .int .i64 ((i : Nat) : Int)]) [(0, (pB ps))] (.bool (Sp.apF ps k k2 i i2)) [(0, (pB ps))] := by
  have hk2l : k2 < ps.length := hk2 ▸ Nat.mod_lt _ (by omega); have hi2l : i2 < ps.length := hi2 ▸ Nat.mod_lt _ (by omega)
  refine ac_in Try.func86 (fun w0 W pin => ?_)
  refine aw_p 3 (
    .a 1 1 <| .nil _ _) ?_
  refine aw_p 7 (
    .a 3 1 <| .nil _ _) ?_
  refine aw_d 15 (
    .a 2 1 <| .p (does_indexSlice (t := 30) (x := .tmp 16) (y := .tmp 17) (k := 0) (off := 0) (n := ps.length) (c := 0) (z := 2) (kd := .i64) (j := ((k : Nat) : Int)) (by kernel_rfl) (by kernel_rfl) (by kernel_rfl) (by kernel_rfl) (by kernel_rfl) (by omega) (by omega)) <|
    .p (does_load (t := 28) (x := .tmp 18) (k := 0) (off := (0 + (((k : Nat) : Int)).toNat * 2)) (b := (pB ps)) (v := .agg #[.int .i64 ((ps.getD k (0, 0)).1), .int .i64 ((ps.getD k (0, 0)).2)]) (by kernel_rfl) (by kernel_rfl) (by kernel_rfl) (ldV_pair (j := k) (by kernel_rfl) (by kernel_rfl) (by omega) (by omega))) <|
    .a 2 1 <| .p (does_i (((k : Nat) : Int) + 1) (wrap_i64 (by omega) (by omega)) .i64) <| .a 1 1 <|
    .p (does_int (n' := ((k2 : Nat) : Int)) (does_rem (t := 3) (t2 := 3) (x := .tmp 22) (y := .tmp 23) (k := .i64) (a := (((k : Nat) : Int) + 1)) (b := ((ps.length : Nat) : Int)) (by kernel_rfl) (by kernel_rfl) (by kernel_rfl) (by omega)) ((show (Int.tmod (((k : Nat) : Int) + 1) ((ps.length : Nat) : Int)) = ((k2 : Nat) : Int) from (by rw [← hk2]; exact rfl)))) <|
    .p (does_indexSlice (t := 30) (x := .tmp 20) (y := .tmp 24) (k := 0) (off := 0) (n := ps.length) (c := 0) (z := 2) (kd := .i64) (j := ((k2 : Nat) : Int)) (by kernel_rfl) (by kernel_rfl) (by kernel_rfl) (by kernel_rfl) (by kernel_rfl) (by omega) (by omega)) <|
    .p (does_load (t := 28) (x := .tmp 25) (k := 0) (off := (0 + (((k2 : Nat) : Int)).toNat * 2)) (b := (pB ps)) (v := .agg #[.int .i64 ((ps.getD k2 (0, 0)).1), .int .i64 ((ps.getD k2 (0, 0)).2)]) (by kernel_rfl) (by kernel_rfl) (by kernel_rfl) (ldV_pair (j := k2) (by kernel_rfl) (by kernel_rfl) (by omega) (by omega))) <|
    .a 2 1 <| .p (does_indexSlice (t := 30) (x := .tmp 27) (y := .tmp 28) (k := 0) (off := 0) (n := ps.length) (c := 0) (z := 2) (kd := .i64) (j := ((i : Nat) : Int)) (by kernel_rfl) (by kernel_rfl) (by kernel_rfl) (by kernel_rfl) (by kernel_rfl) (by omega) (by omega)) <|
    .p (does_load (t := 28) (x := .tmp 29) (k := 0) (off := (0 + (((i : Nat) : Int)).toNat * 2)) (b := (pB ps)) (v := .agg #[.int .i64 ((ps.getD i (0, 0)).1), .int .i64 ((ps.getD i (0, 0)).2)]) (by kernel_rfl) (by kernel_rfl) (by kernel_rfl) (ldV_pair (j := i) (by kernel_rfl) (by kernel_rfl) (by omega) (by omega))) <|
    .a 2 1 <| .p (does_i (((i : Nat) : Int) + 1) (wrap_i64 (by omega) (by omega)) .i64) <| .a 1 1 <|
    .p (does_int (n' := ((i2 : Nat) : Int)) (does_rem (t := 3) (t2 := 3) (x := .tmp 33) (y := .tmp 34) (k := .i64) (a := (((i : Nat) : Int) + 1)) (b := ((ps.length : Nat) : Int)) (by kernel_rfl) (by kernel_rfl) (by kernel_rfl) (by omega)) ((show (Int.tmod (((i : Nat) : Int) + 1) ((ps.length : Nat) : Int)) = ((i2 : Nat) : Int) from (by rw [← hi2]; exact rfl)))) <|
    .p (does_indexSlice (t := 30) (x := .tmp 31) (y := .tmp 35) (k := 0) (off := 0) (n := ps.length) (c := 0) (z := 2) (kd := .i64) (j := ((i2 : Nat) : Int)) (by kernel_rfl) (by kernel_rfl) (by kernel_rfl) (by kernel_rfl) (by kernel_rfl) (by omega) (by omega)) <|
    .p (does_load (t := 28) (x := .tmp 36) (k := 0) (off := (0 + (((i2 : Nat) : Int)).toNat * 2)) (b := (pB ps)) (v := .agg #[.int .i64 ((ps.getD i2 (0, 0)).1), .int .i64 ((ps.getD i2 (0, 0)).2)]) (by kernel_rfl) (by kernel_rfl) (by kernel_rfl) (ldV_pair (j := i2) (by kernel_rfl) (by kernel_rfl) (by omega) (by omega))) <|
    .a 8 1 <| .nil _ _) ?_
  refine aw_d 31 (
    .a 1 5 <| .p (does_i (((k : Nat) : Int) + 1) (wrap_i64 (by omega) (by omega)) .i64) <| .a 3 5 <| .p (does_i (((i : Nat) : Int) + 1) (wrap_i64 (by omega) (by omega)) .i64) <| .a 1 5 <|
    .p (does_int (n' := ((i2 : Nat) : Int)) (does_rem (t := 3) (t2 := 3) (x := .tmp 43) (y := .tmp 44) (k := .i64) (a := (((i : Nat) : Int) + 1)) (b := ((ps.length : Nat) : Int)) (by kernel_rfl) (by kernel_rfl) (by kernel_rfl) (by omega)) ((show (Int.tmod (((i : Nat) : Int) + 1) ((ps.length : Nat) : Int)) = ((i2 : Nat) : Int) from (by rw [← hi2]; exact rfl)))) <|
    .a 4 5 <| .nil _ _) ?_
  refine aw_sq 62 63 ?_
  rcases Bool.eq_false_or_eq_true (((((ps.getD k (0, 0)).1) == ((ps.getD k2 (0, 0)).1)) && ((((ps.getD k (0, 0)).2) == ((ps.getD k2 (0, 0)).2)) && true))) with h1 | h1
  · have h1p : ((((ps.getD k (0, 0)).1) = ((ps.getD k2 (0, 0)).1) ∧ ((ps.getD k (0, 0)).2) = ((ps.getD k2 (0, 0)).2))) := by first | (simpa using h1) | (have h1q := h1; simp at h1q; omega) | (have h1q := bx1 h1; simp at h1q; omega)
    refine aw_p 125 (
      .a 2 5 <| .p (does_e true (h1)) <| .a 5 5 <| .nil _ _) ?_
    refine aw_tr 250 ?_
    refine aw_p 501 (
      .a 1 5 <| .nil _ _) ?_
    refine aw_rt ?_
    refine then_ret ?_
    exact en_ret [.bool false] (show (.bool false : Value) = (.bool (Sp.apF ps k k2 i i2)) from (congrArg Value.bool (show false = (Sp.apF ps k k2 i i2) from by (first | exact (Sp.apF_1 (by assumption)).symm | exact (Sp.apF_2 (by assumption) (by assumption)).symm | exact (Sp.apF_3 (by assumption) (by assumption) (by assumption)).symm | exact (Sp.apF_4 (by assumption) (by assumption) (by assumption) (by assumption)).symm | exact (Sp.apF_5 (by assumption) (by assumption) (by assumption) (by assumption)).symm))))
  · have h1p : ¬ ((((ps.getD k (0, 0)).1) = ((ps.getD k2 (0, 0)).1) ∧ ((ps.getD k (0, 0)).2) = ((ps.getD k2 (0, 0)).2))) := by first | (simpa using h1) | (have h1q := h1; simp at h1q; omega) | (have h1q := bx2 h1; simp at h1q; omega)
    refine aw_p 125 (
      .a 2 5 <| .p (does_e false (h1)) <| .a 3 5 <| .p (does_e ((((ps.getD i (0, 0)).1) == ((ps.getD i2 (0, 0)).1)) && ((((ps.getD i (0, 0)).2) == ((ps.getD i2 (0, 0)).2)) && true)) (rfl)) <| .a 1 5 <| .nil _ _) ?_
    refine aw_cd 250 251 ((((ps.getD i (0, 0)).1) == ((ps.getD i2 (0, 0)).1)) && ((((ps.getD i (0, 0)).2) == ((ps.getD i2 (0, 0)).2)) && true)) (fun h2 => ?_) (fun h2 => ?_)
    · have h2p : ((((ps.getD i (0, 0)).1) = ((ps.getD i2 (0, 0)).1) ∧ ((ps.getD i (0, 0)).2) = ((ps.getD i2 (0, 0)).2))) := by first | (simpa using h2) | (have h2q := h2; simp at h2q; omega) | (have h2q := bx1 h2; simp at h2q; omega)
      refine aw_p 501 (
        .a 1 5 <| .nil _ _) ?_
      refine aw_rt ?_
      refine then_ret ?_
      exact en_ret [.bool false] (show (.bool false : Value) = (.bool (Sp.apF ps k k2 i i2)) from (congrArg Value.bool (show false = (Sp.apF ps k k2 i i2) from by (first | exact (Sp.apF_1 (by assumption)).symm | exact (Sp.apF_2 (by assumption) (by assumption)).symm | exact (Sp.apF_3 (by assumption) (by assumption) (by assumption)).symm | exact (Sp.apF_4 (by assumption) (by assumption) (by assumption) (by assumption)).symm | exact (Sp.apF_5 (by assumption) (by assumption) (by assumption) (by assumption)).symm))))
    · have h2p : ¬ ((((ps.getD i (0, 0)).1) = ((ps.getD i2 (0, 0)).1) ∧ ((ps.getD i (0, 0)).2) = ((ps.getD i2 (0, 0)).2))) := by first | (simpa using h2) | (have h2q := h2; simp at h2q; omega) | (have h2q := bx2 h2; simp at h2q; omega)
      refine aw_sk ?_
      refine then_normal ?_
      refine aw_sq 126 127 ?_
      rcases Bool.eq_false_or_eq_true ((((k : Nat) : Int) + 1) == ((i : Nat) : Int)) with h3 | h3
      · have h3p : (((((k : Nat) : Int) + 1) = ((i : Nat) : Int))) := by first | (simpa using h3) | (have h3q := h3; simp at h3q; omega) | (have h3q := bx1 h3; simp at h3q; omega)
        refine aw_p 253 (
          .p (does_b true (h3)) <| .a 3 5 <| .nil _ _) ?_
        refine aw_tr 506 ?_
        refine aw_p 1013 (
          .a 4 5 <| .p (does_c (segmeet_any ((ps.getD k (0, 0)).1) ((ps.getD k (0, 0)).2) ((ps.getD k2 (0, 0)).1) ((ps.getD k2 (0, 0)).2) ((ps.getD i (0, 0)).1) ((ps.getD i (0, 0)).2) ((ps.getD i2 (0, 0)).1) ((ps.getD i2 (0, 0)).2))) <| .a 2 5 <| .nil _ _) ?_
        refine aw_rt ?_
        refine then_ret ?_
        exact en_ret [.bool ((Sp.meetN (Sp.lim 1048576 ((ps.getD k (0, 0)).1)) (Sp.lim 1048576 ((ps.getD k (0, 0)).2)) (Sp.lim 1048576 ((ps.getD k2 (0, 0)).1)) (Sp.lim 1048576 ((ps.getD k2 (0, 0)).2)) (Sp.lim 1048576 ((ps.getD i (0, 0)).1)) (Sp.lim 1048576 ((ps.getD i (0, 0)).2)) (Sp.lim 1048576 ((ps.getD i2 (0, 0)).1)) (Sp.lim 1048576 ((ps.getD i2 (0, 0)).2))) == 1)] (show (.bool ((Sp.meetN (Sp.lim 1048576 ((ps.getD k (0, 0)).1)) (Sp.lim 1048576 ((ps.getD k (0, 0)).2)) (Sp.lim 1048576 ((ps.getD k2 (0, 0)).1)) (Sp.lim 1048576 ((ps.getD k2 (0, 0)).2)) (Sp.lim 1048576 ((ps.getD i (0, 0)).1)) (Sp.lim 1048576 ((ps.getD i (0, 0)).2)) (Sp.lim 1048576 ((ps.getD i2 (0, 0)).1)) (Sp.lim 1048576 ((ps.getD i2 (0, 0)).2))) == 1) : Value) = (.bool (Sp.apF ps k k2 i i2)) from (congrArg Value.bool (show ((Sp.meetN (Sp.lim 1048576 ((ps.getD k (0, 0)).1)) (Sp.lim 1048576 ((ps.getD k (0, 0)).2)) (Sp.lim 1048576 ((ps.getD k2 (0, 0)).1)) (Sp.lim 1048576 ((ps.getD k2 (0, 0)).2)) (Sp.lim 1048576 ((ps.getD i (0, 0)).1)) (Sp.lim 1048576 ((ps.getD i (0, 0)).2)) (Sp.lim 1048576 ((ps.getD i2 (0, 0)).1)) (Sp.lim 1048576 ((ps.getD i2 (0, 0)).2))) == 1) = (Sp.apF ps k k2 i i2) from by (first | exact (Sp.apF_1 (by assumption)).symm | exact (Sp.apF_2 (by assumption) (by assumption)).symm | exact (Sp.apF_3 (by assumption) (by assumption) (by assumption)).symm | exact (Sp.apF_4 (by assumption) (by assumption) (by assumption) (by assumption)).symm | exact (Sp.apF_5 (by assumption) (by assumption) (by assumption) (by assumption)).symm))))
      · have h3p : ¬ (((((k : Nat) : Int) + 1) = ((i : Nat) : Int))) := by first | (simpa using h3) | (have h3q := h3; simp at h3q; omega) | (have h3q := bx2 h3; simp at h3q; omega)
        refine aw_p 253 (
          .p (does_b false (h3)) <| .a 3 5 <| .nil _ _) ?_
        refine aw_cd 506 507 (((i2 : Nat) : Int) == ((k : Nat) : Int)) (fun h4 => ?_) (fun h4 => ?_)
        · have h4p : ((((i2 : Nat) : Int) = ((k : Nat) : Int))) := by first | (simpa using h4) | (have h4q := h4; simp at h4q; omega) | (have h4q := bx1 h4; simp at h4q; omega)
          refine aw_p 1013 (
            .a 4 5 <| .p (does_c (segmeet_any ((ps.getD k (0, 0)).1) ((ps.getD k (0, 0)).2) ((ps.getD k2 (0, 0)).1) ((ps.getD k2 (0, 0)).2) ((ps.getD i (0, 0)).1) ((ps.getD i (0, 0)).2) ((ps.getD i2 (0, 0)).1) ((ps.getD i2 (0, 0)).2))) <| .a 2 5 <| .nil _ _) ?_
          refine aw_rt ?_
          refine then_ret ?_
          exact en_ret [.bool ((Sp.meetN (Sp.lim 1048576 ((ps.getD k (0, 0)).1)) (Sp.lim 1048576 ((ps.getD k (0, 0)).2)) (Sp.lim 1048576 ((ps.getD k2 (0, 0)).1)) (Sp.lim 1048576 ((ps.getD k2 (0, 0)).2)) (Sp.lim 1048576 ((ps.getD i (0, 0)).1)) (Sp.lim 1048576 ((ps.getD i (0, 0)).2)) (Sp.lim 1048576 ((ps.getD i2 (0, 0)).1)) (Sp.lim 1048576 ((ps.getD i2 (0, 0)).2))) == 1)] (show (.bool ((Sp.meetN (Sp.lim 1048576 ((ps.getD k (0, 0)).1)) (Sp.lim 1048576 ((ps.getD k (0, 0)).2)) (Sp.lim 1048576 ((ps.getD k2 (0, 0)).1)) (Sp.lim 1048576 ((ps.getD k2 (0, 0)).2)) (Sp.lim 1048576 ((ps.getD i (0, 0)).1)) (Sp.lim 1048576 ((ps.getD i (0, 0)).2)) (Sp.lim 1048576 ((ps.getD i2 (0, 0)).1)) (Sp.lim 1048576 ((ps.getD i2 (0, 0)).2))) == 1) : Value) = (.bool (Sp.apF ps k k2 i i2)) from (congrArg Value.bool (show ((Sp.meetN (Sp.lim 1048576 ((ps.getD k (0, 0)).1)) (Sp.lim 1048576 ((ps.getD k (0, 0)).2)) (Sp.lim 1048576 ((ps.getD k2 (0, 0)).1)) (Sp.lim 1048576 ((ps.getD k2 (0, 0)).2)) (Sp.lim 1048576 ((ps.getD i (0, 0)).1)) (Sp.lim 1048576 ((ps.getD i (0, 0)).2)) (Sp.lim 1048576 ((ps.getD i2 (0, 0)).1)) (Sp.lim 1048576 ((ps.getD i2 (0, 0)).2))) == 1) = (Sp.apF ps k k2 i i2) from by (first | exact (Sp.apF_1 (by assumption)).symm | exact (Sp.apF_2 (by assumption) (by assumption)).symm | exact (Sp.apF_3 (by assumption) (by assumption) (by assumption)).symm | exact (Sp.apF_4 (by assumption) (by assumption) (by assumption) (by assumption)).symm | exact (Sp.apF_5 (by assumption) (by assumption) (by assumption) (by assumption)).symm))))
        · have h4p : ¬ ((((i2 : Nat) : Int) = ((k : Nat) : Int))) := by first | (simpa using h4) | (have h4q := h4; simp at h4q; omega) | (have h4q := bx2 h4; simp at h4q; omega)
          refine aw_sk ?_
          refine then_normal ?_
          refine aw_p 255 (
            .a 4 5 <| .p (does_c (segmeet_any ((ps.getD k (0, 0)).1) ((ps.getD k (0, 0)).2) ((ps.getD k2 (0, 0)).1) ((ps.getD k2 (0, 0)).2) ((ps.getD i (0, 0)).1) ((ps.getD i (0, 0)).2) ((ps.getD i2 (0, 0)).1) ((ps.getD i2 (0, 0)).2))) <| .a 2 5 <| .nil _ _) ?_
          refine aw_rt ?_
          exact en_ret [.bool ((Sp.meetN (Sp.lim 1048576 ((ps.getD k (0, 0)).1)) (Sp.lim 1048576 ((ps.getD k (0, 0)).2)) (Sp.lim 1048576 ((ps.getD k2 (0, 0)).1)) (Sp.lim 1048576 ((ps.getD k2 (0, 0)).2)) (Sp.lim 1048576 ((ps.getD i (0, 0)).1)) (Sp.lim 1048576 ((ps.getD i (0, 0)).2)) (Sp.lim 1048576 ((ps.getD i2 (0, 0)).1)) (Sp.lim 1048576 ((ps.getD i2 (0, 0)).2))) == 0)] (show (.bool ((Sp.meetN (Sp.lim 1048576 ((ps.getD k (0, 0)).1)) (Sp.lim 1048576 ((ps.getD k (0, 0)).2)) (Sp.lim 1048576 ((ps.getD k2 (0, 0)).1)) (Sp.lim 1048576 ((ps.getD k2 (0, 0)).2)) (Sp.lim 1048576 ((ps.getD i (0, 0)).1)) (Sp.lim 1048576 ((ps.getD i (0, 0)).2)) (Sp.lim 1048576 ((ps.getD i2 (0, 0)).1)) (Sp.lim 1048576 ((ps.getD i2 (0, 0)).2))) == 0) : Value) = (.bool (Sp.apF ps k k2 i i2)) from (congrArg Value.bool (show ((Sp.meetN (Sp.lim 1048576 ((ps.getD k (0, 0)).1)) (Sp.lim 1048576 ((ps.getD k (0, 0)).2)) (Sp.lim 1048576 ((ps.getD k2 (0, 0)).1)) (Sp.lim 1048576 ((ps.getD k2 (0, 0)).2)) (Sp.lim 1048576 ((ps.getD i (0, 0)).1)) (Sp.lim 1048576 ((ps.getD i (0, 0)).2)) (Sp.lim 1048576 ((ps.getD i2 (0, 0)).1)) (Sp.lim 1048576 ((ps.getD i2 (0, 0)).2))) == 0) = (Sp.apF ps k k2 i i2) from by (first | exact (Sp.apF_1 (by assumption)).symm | exact (Sp.apF_2 (by assumption) (by assumption)).symm | exact (Sp.apF_3 (by assumption) (by assumption) (by assumption)).symm | exact (Sp.apF_4 (by assumption) (by assumption) (by assumption) (by assumption)).symm | exact (Sp.apF_5 (by assumption) (by assumption) (by assumption) (by assumption)).symm))))
theorem ctf_nokn_own (ps : List (Int × Int)) (N : Nat) (hN : ps.length = N) (hz : N ≤ 9223372036854775807) : AC Try.prog 83 1 [.slice (some ⟨0, 0, none⟩) N 0, .func (.func 84) #[] #[]] [(0, ⟨(ps.flatMap ptc), 28, true, 2⟩)] (.bool (ps.any Sp.nok)) [(0, ⟨(ps.flatMap ptc), 28, true, 2⟩)] := by
  subst hN
  exact ctf_nok_own ps hz
end Go.Proofs.Ytndkhgfecnbmnaa.Am
