/-
  The walk of the law FracRounds.
-/
import Derived.Test.YtpfdihhlpegllaaProg
import Derived.Test.YtpfdihhlpegllaaAm13
import Derived.Test.YtpfdihhlpegllaaFr3
namespace Go.Proofs.Ytpfdihhlpegllaa.Am
open Go Go.Proofs
set_option maxRecDepth 100000
set_option maxHeartbeats 4000000
set_option linter.unusedVariables false
set_option linter.unusedSimpArgs false

theorem fracRounds_walk (n1 d1 : Int) (zln1 : -9223372036854775808 ≤ n1) (zun1 : n1 ≤ 9223372036854775807) (zld1 : -9223372036854775808 ≤ d1) (zud1 : d1 ≤ 9223372036854775807) :
    AC Try.prog 7 0 ([.agg #[.int .i64 n1, .int .i64 d1]]) [] (.bool true) [] := by
  have fn1 := Sp.fn_bd (d := d1) zln1 zun1; have fd1 := Sp.fd_bd (n := n1) zud1; have fl := Sp.floor_bd (b := d1) zln1 zun1; have fe := Sp.floor_rest n1 d1; have rr := Sp.rnd_rv n1 d1
  refine ac_in Try.func7 (fun w0 W pin => ?_)
  refine aw_p 3 (
    .a 2 1 <| .nil _ _) ?_
  refine aw_sq 6 7 ?_
  refine aw_p 13 (
    .p (does_c (terrlaw1_fracBegun_ok)) <| .a 1 2 <| .nil _ _) ?_
  refine aw_fl 27 ?_
  refine aw_sk ?_
  refine then_normal ?_
  refine aw_p 15 (
    .a 1 2 <| .p (does_c (rdown_ok n1 d1 (by omega) (by omega) (by omega) (by omega))) <| .a 1 2 <| .nil _ _) ?_
  refine aw_p 31 (
    .a 1 2 <| .p (does_c (rpair_ok n1 d1 (by omega) (by omega) (by omega) (by omega))) <| .a 7 2 <| .nil _ _) ?_
  refine aw_p 63 (
    .a 2 4 <| .nil _ _) ?_
  refine aw_sq 126 127 ?_
  refine aw_d 253 (
    .a 2 4 <| .p (does_c (llof_ok ((Sp.rv n1 d1).floor) (by omega) (by omega))) <| .a 1 4 <| .p (does_c (ltimes_ok ((Sp.rv n1 d1).floor) (Sp.fd n1 d1))) <| .p (does_c (lminus_ok (Sp.fn n1 d1) (((Sp.rv n1 d1).floor) * (Sp.fd n1 d1)))) <|
    .p (does_c (ltwice_ok ((Sp.fn n1 d1) - (((Sp.rv n1 d1).floor) * (Sp.fd n1 d1))))) <| .a 1 4 <| .p (does_c (lminus_ok (2 * ((Sp.fn n1 d1) - (((Sp.rv n1 d1).floor) * (Sp.fd n1 d1)))) (Sp.fd n1 d1))) <|
    .p (does_c (lsign_ok ((2 * ((Sp.fn n1 d1) - (((Sp.rv n1 d1).floor) * (Sp.fd n1 d1)))) - (Sp.fd n1 d1)) (by omega) (by omega))) <| .p (does_b (decide (0 ≤ (2 * ((Sp.fn n1 d1) - (((Sp.rv n1 d1).floor) * (Sp.fd n1 d1)))) - (Sp.fd n1 d1))) (Sp.sgn_ge _)) <| .nil _ _) ?_
  refine aw_cd 506 507 (decide (0 ≤ (2 * ((Sp.fn n1 d1) - (((Sp.rv n1 d1).floor) * (Sp.fd n1 d1)))) - (Sp.fd n1 d1))) (fun h1 => ?_) (fun h1 => ?_)
  · have h1p : ((0 ≤ (2 * ((Sp.fn n1 d1) - (((Sp.rv n1 d1).floor) * (Sp.fd n1 d1)))) - (Sp.fd n1 d1))) := by first | (simpa using h1) | (have h1q := h1; simp at h1q; omega) | (have h1q := bx1 h1; simp at h1q; omega)
    refine aw_p1 (
      .a 1 4 <| .p (does_i (((Sp.rv n1 d1).floor) + 1) (wrap_i64 (by omega) (by have := Sp.up_bd (b := d1) zln1 zun1 (by omega); omega)) .i64) <| .a 1 4 <| .nil _ _) ?_
    refine then_normal ?_
    refine aw_p 255 (
      .a 1 4 <| .p (does_c (ffloor_ok n1 d1 (by omega) (by omega) (by omega) (by omega))) <| .a 1 4 <| .p (does_b true ((show (((Sp.rv n1 d1).floor) == ((Sp.rv n1 d1).floor)) = true from by simp))) <| .a 2 4 <| .p (does_c (fround_ok n1 d1 (by omega) (by omega) (by omega) (by omega))) <| .a 1 4 <|
      .p (does_b true ((show ((Sp.rnd (Sp.rv n1 d1)) == (((Sp.rv n1 d1).floor) + 1)) = true from (by rw [beq_iff_eq, rr]; first | (rw [if_pos (by omega)]) | (rw [if_neg (by omega)]))))) <| .a 2 4 <| .nil _ _) ?_
    refine aw_rt ?_
    exact en_ret [.bool true] (by kernel_rfl)
  · have h1p : ¬ ((0 ≤ (2 * ((Sp.fn n1 d1) - (((Sp.rv n1 d1).floor) * (Sp.fd n1 d1)))) - (Sp.fd n1 d1))) := by first | (simpa using h1) | (have h1q := h1; simp at h1q; omega) | (have h1q := bx2 h1; simp at h1q; omega)
    refine aw_sk ?_
    refine then_normal ?_
    refine aw_p 255 (
      .a 1 4 <| .p (does_c (ffloor_ok n1 d1 (by omega) (by omega) (by omega) (by omega))) <| .a 1 4 <| .p (does_b true ((show (((Sp.rv n1 d1).floor) == ((Sp.rv n1 d1).floor)) = true from by simp))) <| .a 2 4 <| .p (does_c (fround_ok n1 d1 (by omega) (by omega) (by omega) (by omega))) <| .a 1 4 <|
      .p (does_b true ((show ((Sp.rnd (Sp.rv n1 d1)) == ((Sp.rv n1 d1).floor)) = true from (by rw [beq_iff_eq, rr]; first | (rw [if_pos (by omega)]) | (rw [if_neg (by omega)]))))) <| .a 2 4 <| .nil _ _) ?_
    refine aw_rt ?_
    exact en_ret [.bool true] (by kernel_rfl)


end Go.Proofs.Ytpfdihhlpegllaa.Am
