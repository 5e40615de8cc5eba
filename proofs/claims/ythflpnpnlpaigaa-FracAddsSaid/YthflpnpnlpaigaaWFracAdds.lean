/-
  The walk of the law FracAdds.
-/
import Derived.Test.YthflpnpnlpaigaaProg
import Derived.Test.YthflpnpnlpaigaaAm13
import Derived.Test.YthflpnpnlpaigaaFr3
namespace Go.Proofs.Ythflpnpnlpaigaa.Am
open Go Go.Proofs
set_option maxRecDepth 100000
set_option maxHeartbeats 4000000
set_option linter.unusedVariables false
set_option linter.unusedSimpArgs false

theorem fracAdds_walk (n1 d1 : Int) (zln1 : -9223372036854775808 ≤ n1) (zun1 : n1 ≤ 9223372036854775807) (zld1 : -9223372036854775808 ≤ d1) (zud1 : d1 ≤ 9223372036854775807) (n2 d2 : Int) (zln2 : -9223372036854775808 ≤ n2) (zun2 : n2 ≤ 9223372036854775807) (zld2 : -9223372036854775808 ≤ d2) (zud2 : d2 ≤ 9223372036854775807) :
    AC Try.prog 5 0 ([.agg #[.int .i64 n1, .int .i64 d1], .agg #[.int .i64 n2, .int .i64 d2]]) [] (.bool true) [] := by
  refine ac_in Try.func5 (fun w0 W pin => ?_)
  refine aw_p 3 (
    .a 3 1 <| .nil _ _) ?_
  refine aw_sq 6 7 ?_
  refine aw_d 13 (
    .p (does_c (terrlaw1_fracBegun_ok)) <| .a 3 3 <| .p (does_c (fgood_ok n1 d1 (by omega) (by omega) (by omega) (by omega))) <| .a 1 3 <| .p (does_c (rfit_ok n1 d1 (by omega) (by omega) (by omega) (by omega))) <| .p (does_b false ((show (!((Sp.gd n1 d1) == (Sp.gd n1 d1))) = false from by simp))) <|
    .a 1 3 <| .nil _ _) ?_
  refine aw_fl 27 ?_
  refine aw_sk ?_
  refine then_normal ?_
  refine aw_p 15 (
    .a 2 3 <| .p (does_c (fadd_ok n1 d1 (by omega) (by omega) (by omega) (by omega) n2 d2 (by omega) (by omega) (by omega) (by omega))) <| .a 6 3 <| .nil _ _) ?_
  refine aw_p 31 (
    .a 2 4 <| .p (does_c (fsub_ok n1 d1 (by omega) (by omega) (by omega) (by omega) n2 d2 (by omega) (by omega) (by omega) (by omega))) <| .a 6 4 <| .nil _ _) ?_
  refine aw_p 63 (
    .a 2 5 <| .p (does_c (rsum_ok n1 d1 (by omega) (by omega) (by omega) (by omega) n2 d2 (by omega) (by omega) (by omega) (by omega))) <| .a 6 5 <| .nil _ _) ?_
  refine aw_d 127 (
    .a 2 6 <| .p (does_c (ropp_ok n2 d2 (by omega) (by omega) (by omega) (by omega))) <|
    .p (does_c ((by have h := rsum_ok n1 d1 (by omega) (by omega) (by omega) (by omega) (Sp.qn (-(Sp.rv n2 d2))) (Sp.qd (-(Sp.rv n2 d2))) (by have := Sp.qn_bd (-(Sp.rv n2 d2)); omega) (by have := Sp.qn_bd (-(Sp.rv n2 d2)); omega) (by have := Sp.qd_bd (-(Sp.rv n2 d2)); omega) (by have := Sp.qd_bd (-(Sp.rv n2 d2)); omega); rw [(Sp.rv_fit (q := (-(Sp.rv n2 d2))) (Sp.fitq_neg (Sp.fits_rv (by omega) (by omega) (by omega))))] at h; exact h))) <|
    .a 6 6 <| .nil _ _) ?_
  refine aw_p 255 (
    .a 2 7 <| .p (does_c (rorder_ok n1 d1 (by omega) (by omega) (by omega) (by omega) n2 d2 (by omega) (by omega) (by omega) (by omega))) <| .a 1 7 <| .nil _ _) ?_
  refine aw_d 511 (
    .a 1 7 <| .p (does_c (ropp_ok n1 d1 (by omega) (by omega) (by omega) (by omega))) <|
    .p (does_c ((by have h := ropp_ok (Sp.qn (-(Sp.rv n1 d1))) (Sp.qd (-(Sp.rv n1 d1))) (by have := Sp.qn_bd (-(Sp.rv n1 d1)); omega) (by have := Sp.qn_bd (-(Sp.rv n1 d1)); omega) (by have := Sp.qd_bd (-(Sp.rv n1 d1)); omega) (by have := Sp.qd_bd (-(Sp.rv n1 d1)); omega); rw [(Sp.rv_fit (q := (-(Sp.rv n1 d1))) (Sp.fitq_neg (Sp.fits_rv (by omega) (by omega) (by omega))))] at h; exact h))) <|
    .a 1 7 <| .p (does_c (ropp_ok n2 d2 (by omega) (by omega) (by omega) (by omega))) <|
    .p (does_c ((by have h := ropp_ok (Sp.qn (-(Sp.rv n2 d2))) (Sp.qd (-(Sp.rv n2 d2))) (by have := Sp.qn_bd (-(Sp.rv n2 d2)); omega) (by have := Sp.qn_bd (-(Sp.rv n2 d2)); omega) (by have := Sp.qd_bd (-(Sp.rv n2 d2)); omega) (by have := Sp.qd_bd (-(Sp.rv n2 d2)); omega); rw [(Sp.rv_fit (q := (-(Sp.rv n2 d2))) (Sp.fitq_neg (Sp.fits_rv (by omega) (by omega) (by omega))))] at h; exact h))) <|
    .a 4 7 <| .nil _ _) ?_
  refine aw_d 1023 (
    .a 6 9 <| .nil _ _) ?_
  refine aw_sq 2046 2047 ?_
  refine aw_p 4093 (
    .a 1 11 <| .p (does_b (decide ((Sp.rv n2 d2) < (Sp.rv n1 d1))) ((Sp.rcmp_pos (Sp.rv n1 d1) (Sp.rv n2 d2)))) <| .nil _ _) ?_
  refine aw_cd 8186 8187 (decide ((Sp.rv n2 d2) < (Sp.rv n1 d1))) (fun h1 => ?_) (fun h1 => ?_)
  · have h1p : (((Sp.rv n2 d2) < (Sp.rv n1 d1))) := by first | (simpa using h1) | (have h1q := h1; simp at h1q; omega) | (have h1q := bx1 h1; simp at h1q; omega)
    refine aw_d1 (
      .a 4 11 <| .nil _ _) ?_
    refine then_normal ?_
    refine aw_p 4095 (
      .a 6 11 <| .nil _ _) ?_
    refine aw_sq 8190 8191 ?_
    refine aw_p 16381 (
      .a 2 13 <| .p (does_c ((by have h := rorder_ok n1 d1 (by omega) (by omega) (by omega) (by omega) 0 1 (by decide) (by decide) (by decide) (by decide); rw [(Sp.rv_int 0 (by decide))] at h; exact h))) <|
      .p (does_b (decide ((Sp.rv n1 d1) < ((0 : Int) : Rat))) ((Sp.rcmp_neg (Sp.rv n1 d1) ((0 : Int) : Rat)))) <| .nil _ _) ?_
    refine aw_cd 32762 32763 (decide ((Sp.rv n1 d1) < ((0 : Int) : Rat))) (fun h2 => ?_) (fun h2 => ?_)
    · have h2p : (((Sp.rv n1 d1) < ((0 : Int) : Rat))) := by first | (simpa using h2) | (have h2q := h2; simp at h2q; omega) | (have h2q := bx1 h2; simp at h2q; omega)
      refine aw_p1 (
        .a 1 13 <| .p (does_c (ropp_ok n1 d1 (by omega) (by omega) (by omega) (by omega))) <| .a 1 13 <| .nil _ _) ?_
      refine then_normal ?_
      refine aw_d 16383 (
        .a 4 13 <| .p (does_c (same_ok (Sp.qn ((Sp.rv n1 d1) + (Sp.rv n2 d2))) (Sp.qd ((Sp.rv n1 d1) + (Sp.rv n2 d2))) (Sp.qe ((Sp.rv n1 d1) + (Sp.rv n2 d2))))) <| .a 5 13 <|
        .p (does_c (same_ok (Sp.qn ((Sp.rv n1 d1) + (-(Sp.rv n2 d2)))) (Sp.qd ((Sp.rv n1 d1) + (-(Sp.rv n2 d2)))) (Sp.qe ((Sp.rv n1 d1) + (-(Sp.rv n2 d2)))))) <| .a 3 13 <| .p (does_c (fneg_ok n1 d1 (by omega) (by omega) (by omega) (by omega))) <| .a 1 13 <|
        .p (does_c (ropp_ok n1 d1 (by omega) (by omega) (by omega) (by omega))) <| .p (does_e true ((show (((Sp.qn (-(Sp.rv n1 d1))) == (Sp.qn (-(Sp.rv n1 d1)))) && (((Sp.qd (-(Sp.rv n1 d1))) == (Sp.qd (-(Sp.rv n1 d1)))) && true)) = true from by simp))) <| .a 3 13 <|
        .p (does_c (fabs_ok n1 d1 (by omega) (by omega) (by omega) (by omega))) <| .a 1 13 <|
        .p (does_e true ((show (((Sp.qn (Sp.rabs (Sp.rv n1 d1))) == (Sp.qn (-(Sp.rv n1 d1)))) && (((Sp.qd (Sp.rabs (Sp.rv n1 d1))) == (Sp.qd (-(Sp.rv n1 d1)))) && true)) = true from (by have qq : (Sp.rabs (Sp.rv n1 d1)) = (-(Sp.rv n1 d1)) := (by first | grind | grind [Sp.rmin, Sp.rmax, Sp.rabs, Sp.rcmp, Sp.rsgn]); rw [qq]; first | (simp; done) | decide)))) <|
        .a 3 13 <| .p (does_c (fsign_ok n1 d1 (by omega) (by omega) (by omega) (by omega))) <| .a 2 13 <| .p (does_c ((by have h := rorder_ok n1 d1 (by omega) (by omega) (by omega) (by omega) 0 1 (by decide) (by decide) (by decide) (by decide); rw [(Sp.rv_int 0 (by decide))] at h; exact h))) <|
        .p (does_b true ((show ((Sp.rsgn (Sp.rv n1 d1)) == (Sp.rcmp (Sp.rv n1 d1) ((0 : Int) : Rat))) = true from (by rw [beq_iff_eq]; first | exact (Sp.rcmp_zero _).symm | exact Sp.rcmp_zero _ | grind [Sp.rcmp, Sp.rsgn])))) <| .a 4 13 <|
        .p (does_c (fcmp_ok n1 d1 (by omega) (by omega) (by omega) (by omega) n2 d2 (by omega) (by omega) (by omega) (by omega))) <| .a 1 13 <| .p (does_b true ((show ((Sp.rcmp (Sp.rv n1 d1) (Sp.rv n2 d2)) == (Sp.rcmp (Sp.rv n1 d1) (Sp.rv n2 d2))) = true from by simp))) <| .a 4 13 <|
        .p (does_c (fmin_ok n1 d1 (by omega) (by omega) (by omega) (by omega) n2 d2 (by omega) (by omega) (by omega) (by omega))) <| .a 1 13 <|
        .p (does_e true ((show (((Sp.qn (Sp.rmin (Sp.rv n1 d1) (Sp.rv n2 d2))) == (Sp.qn (-(-(Sp.rv n2 d2))))) && (((Sp.qd (Sp.rmin (Sp.rv n1 d1) (Sp.rv n2 d2))) == (Sp.qd (-(-(Sp.rv n2 d2))))) && true)) = true from (by have qq : (Sp.rmin (Sp.rv n1 d1) (Sp.rv n2 d2)) = (-(-(Sp.rv n2 d2))) := (by first | grind | grind [Sp.rmin, Sp.rmax, Sp.rabs, Sp.rcmp, Sp.rsgn]); rw [qq]; first | (simp; done) | decide)))) <|
        .a 4 13 <| .p (does_c (fmax_ok n1 d1 (by omega) (by omega) (by omega) (by omega) n2 d2 (by omega) (by omega) (by omega) (by omega))) <| .a 1 13 <|
        .p (does_e true ((show (((Sp.qn (Sp.rmax (Sp.rv n1 d1) (Sp.rv n2 d2))) == (Sp.qn (-(-(Sp.rv n1 d1))))) && (((Sp.qd (Sp.rmax (Sp.rv n1 d1) (Sp.rv n2 d2))) == (Sp.qd (-(-(Sp.rv n1 d1))))) && true)) = true from (by have qq : (Sp.rmax (Sp.rv n1 d1) (Sp.rv n2 d2)) = (-(-(Sp.rv n1 d1))) := (by first | grind | grind [Sp.rmin, Sp.rmax, Sp.rabs, Sp.rcmp, Sp.rsgn]); rw [qq]; first | (simp; done) | decide)))) <|
        .a 2 13 <| .nil _ _) ?_
      refine aw_rt ?_
      exact en_ret [.bool true] (by kernel_rfl)
    · have h2p : ¬ (((Sp.rv n1 d1) < ((0 : Int) : Rat))) := by first | (simpa using h2) | (have h2q := h2; simp at h2q; omega) | (have h2q := bx2 h2; simp at h2q; omega)
      refine aw_sk ?_
      refine then_normal ?_
      refine aw_d 16383 (
        .a 4 13 <| .p (does_c (same_ok (Sp.qn ((Sp.rv n1 d1) + (Sp.rv n2 d2))) (Sp.qd ((Sp.rv n1 d1) + (Sp.rv n2 d2))) (Sp.qe ((Sp.rv n1 d1) + (Sp.rv n2 d2))))) <| .a 5 13 <|
        .p (does_c (same_ok (Sp.qn ((Sp.rv n1 d1) + (-(Sp.rv n2 d2)))) (Sp.qd ((Sp.rv n1 d1) + (-(Sp.rv n2 d2)))) (Sp.qe ((Sp.rv n1 d1) + (-(Sp.rv n2 d2)))))) <| .a 3 13 <| .p (does_c (fneg_ok n1 d1 (by omega) (by omega) (by omega) (by omega))) <| .a 1 13 <|
        .p (does_c (ropp_ok n1 d1 (by omega) (by omega) (by omega) (by omega))) <| .p (does_e true ((show (((Sp.qn (-(Sp.rv n1 d1))) == (Sp.qn (-(Sp.rv n1 d1)))) && (((Sp.qd (-(Sp.rv n1 d1))) == (Sp.qd (-(Sp.rv n1 d1)))) && true)) = true from by simp))) <| .a 3 13 <|
        .p (does_c (fabs_ok n1 d1 (by omega) (by omega) (by omega) (by omega))) <| .a 1 13 <|
        .p (does_e true ((show (((Sp.qn (Sp.rabs (Sp.rv n1 d1))) == (Sp.qn (-(-(Sp.rv n1 d1))))) && (((Sp.qd (Sp.rabs (Sp.rv n1 d1))) == (Sp.qd (-(-(Sp.rv n1 d1))))) && true)) = true from (by have qq : (Sp.rabs (Sp.rv n1 d1)) = (-(-(Sp.rv n1 d1))) := (by first | grind | grind [Sp.rmin, Sp.rmax, Sp.rabs, Sp.rcmp, Sp.rsgn]); rw [qq]; first | (simp; done) | decide)))) <|
        .a 3 13 <| .p (does_c (fsign_ok n1 d1 (by omega) (by omega) (by omega) (by omega))) <| .a 2 13 <| .p (does_c ((by have h := rorder_ok n1 d1 (by omega) (by omega) (by omega) (by omega) 0 1 (by decide) (by decide) (by decide) (by decide); rw [(Sp.rv_int 0 (by decide))] at h; exact h))) <|
        .p (does_b true ((show ((Sp.rsgn (Sp.rv n1 d1)) == (Sp.rcmp (Sp.rv n1 d1) ((0 : Int) : Rat))) = true from (by rw [beq_iff_eq]; first | exact (Sp.rcmp_zero _).symm | exact Sp.rcmp_zero _ | grind [Sp.rcmp, Sp.rsgn])))) <| .a 4 13 <|
        .p (does_c (fcmp_ok n1 d1 (by omega) (by omega) (by omega) (by omega) n2 d2 (by omega) (by omega) (by omega) (by omega))) <| .a 1 13 <| .p (does_b true ((show ((Sp.rcmp (Sp.rv n1 d1) (Sp.rv n2 d2)) == (Sp.rcmp (Sp.rv n1 d1) (Sp.rv n2 d2))) = true from by simp))) <| .a 4 13 <|
        .p (does_c (fmin_ok n1 d1 (by omega) (by omega) (by omega) (by omega) n2 d2 (by omega) (by omega) (by omega) (by omega))) <| .a 1 13 <|
        .p (does_e true ((show (((Sp.qn (Sp.rmin (Sp.rv n1 d1) (Sp.rv n2 d2))) == (Sp.qn (-(-(Sp.rv n2 d2))))) && (((Sp.qd (Sp.rmin (Sp.rv n1 d1) (Sp.rv n2 d2))) == (Sp.qd (-(-(Sp.rv n2 d2))))) && true)) = true from (by have qq : (Sp.rmin (Sp.rv n1 d1) (Sp.rv n2 d2)) = (-(-(Sp.rv n2 d2))) := (by first | grind | grind [Sp.rmin, Sp.rmax, Sp.rabs, Sp.rcmp, Sp.rsgn]); rw [qq]; first | (simp; done) | decide)))) <|
        .a 4 13 <| .p (does_c (fmax_ok n1 d1 (by omega) (by omega) (by omega) (by omega) n2 d2 (by omega) (by omega) (by omega) (by omega))) <| .a 1 13 <|
        .p (does_e true ((show (((Sp.qn (Sp.rmax (Sp.rv n1 d1) (Sp.rv n2 d2))) == (Sp.qn (-(-(Sp.rv n1 d1))))) && (((Sp.qd (Sp.rmax (Sp.rv n1 d1) (Sp.rv n2 d2))) == (Sp.qd (-(-(Sp.rv n1 d1))))) && true)) = true from (by have qq : (Sp.rmax (Sp.rv n1 d1) (Sp.rv n2 d2)) = (-(-(Sp.rv n1 d1))) := (by first | grind | grind [Sp.rmin, Sp.rmax, Sp.rabs, Sp.rcmp, Sp.rsgn]); rw [qq]; first | (simp; done) | decide)))) <|
        .a 2 13 <| .nil _ _) ?_
      refine aw_rt ?_
      exact en_ret [.bool true] (by kernel_rfl)
  · have h1p : ¬ (((Sp.rv n2 d2) < (Sp.rv n1 d1))) := by first | (simpa using h1) | (have h1q := h1; simp at h1q; omega) | (have h1q := bx2 h1; simp at h1q; omega)
    refine aw_sk ?_
    refine then_normal ?_
    refine aw_p 4095 (
      .a 6 11 <| .nil _ _) ?_
    refine aw_sq 8190 8191 ?_
    refine aw_p 16381 (
      .a 2 13 <| .p (does_c ((by have h := rorder_ok n1 d1 (by omega) (by omega) (by omega) (by omega) 0 1 (by decide) (by decide) (by decide) (by decide); rw [(Sp.rv_int 0 (by decide))] at h; exact h))) <|
      .p (does_b (decide ((Sp.rv n1 d1) < ((0 : Int) : Rat))) ((Sp.rcmp_neg (Sp.rv n1 d1) ((0 : Int) : Rat)))) <| .nil _ _) ?_
    refine aw_cd 32762 32763 (decide ((Sp.rv n1 d1) < ((0 : Int) : Rat))) (fun h3 => ?_) (fun h3 => ?_)
    · have h3p : (((Sp.rv n1 d1) < ((0 : Int) : Rat))) := by first | (simpa using h3) | (have h3q := h3; simp at h3q; omega) | (have h3q := bx1 h3; simp at h3q; omega)
      refine aw_p1 (
        .a 1 13 <| .p (does_c (ropp_ok n1 d1 (by omega) (by omega) (by omega) (by omega))) <| .a 1 13 <| .nil _ _) ?_
      refine then_normal ?_
      refine aw_d 16383 (
        .a 4 13 <| .p (does_c (same_ok (Sp.qn ((Sp.rv n1 d1) + (Sp.rv n2 d2))) (Sp.qd ((Sp.rv n1 d1) + (Sp.rv n2 d2))) (Sp.qe ((Sp.rv n1 d1) + (Sp.rv n2 d2))))) <| .a 5 13 <|
        .p (does_c (same_ok (Sp.qn ((Sp.rv n1 d1) + (-(Sp.rv n2 d2)))) (Sp.qd ((Sp.rv n1 d1) + (-(Sp.rv n2 d2)))) (Sp.qe ((Sp.rv n1 d1) + (-(Sp.rv n2 d2)))))) <| .a 3 13 <| .p (does_c (fneg_ok n1 d1 (by omega) (by omega) (by omega) (by omega))) <| .a 1 13 <|
        .p (does_c (ropp_ok n1 d1 (by omega) (by omega) (by omega) (by omega))) <| .p (does_e true ((show (((Sp.qn (-(Sp.rv n1 d1))) == (Sp.qn (-(Sp.rv n1 d1)))) && (((Sp.qd (-(Sp.rv n1 d1))) == (Sp.qd (-(Sp.rv n1 d1)))) && true)) = true from by simp))) <| .a 3 13 <|
        .p (does_c (fabs_ok n1 d1 (by omega) (by omega) (by omega) (by omega))) <| .a 1 13 <|
        .p (does_e true ((show (((Sp.qn (Sp.rabs (Sp.rv n1 d1))) == (Sp.qn (-(Sp.rv n1 d1)))) && (((Sp.qd (Sp.rabs (Sp.rv n1 d1))) == (Sp.qd (-(Sp.rv n1 d1)))) && true)) = true from (by have qq : (Sp.rabs (Sp.rv n1 d1)) = (-(Sp.rv n1 d1)) := (by first | grind | grind [Sp.rmin, Sp.rmax, Sp.rabs, Sp.rcmp, Sp.rsgn]); rw [qq]; first | (simp; done) | decide)))) <|
        .a 3 13 <| .p (does_c (fsign_ok n1 d1 (by omega) (by omega) (by omega) (by omega))) <| .a 2 13 <| .p (does_c ((by have h := rorder_ok n1 d1 (by omega) (by omega) (by omega) (by omega) 0 1 (by decide) (by decide) (by decide) (by decide); rw [(Sp.rv_int 0 (by decide))] at h; exact h))) <|
        .p (does_b true ((show ((Sp.rsgn (Sp.rv n1 d1)) == (Sp.rcmp (Sp.rv n1 d1) ((0 : Int) : Rat))) = true from (by rw [beq_iff_eq]; first | exact (Sp.rcmp_zero _).symm | exact Sp.rcmp_zero _ | grind [Sp.rcmp, Sp.rsgn])))) <| .a 4 13 <|
        .p (does_c (fcmp_ok n1 d1 (by omega) (by omega) (by omega) (by omega) n2 d2 (by omega) (by omega) (by omega) (by omega))) <| .a 1 13 <| .p (does_b true ((show ((Sp.rcmp (Sp.rv n1 d1) (Sp.rv n2 d2)) == (Sp.rcmp (Sp.rv n1 d1) (Sp.rv n2 d2))) = true from by simp))) <| .a 4 13 <|
        .p (does_c (fmin_ok n1 d1 (by omega) (by omega) (by omega) (by omega) n2 d2 (by omega) (by omega) (by omega) (by omega))) <| .a 1 13 <|
        .p (does_e true ((show (((Sp.qn (Sp.rmin (Sp.rv n1 d1) (Sp.rv n2 d2))) == (Sp.qn (-(-(Sp.rv n1 d1))))) && (((Sp.qd (Sp.rmin (Sp.rv n1 d1) (Sp.rv n2 d2))) == (Sp.qd (-(-(Sp.rv n1 d1))))) && true)) = true from (by have qq : (Sp.rmin (Sp.rv n1 d1) (Sp.rv n2 d2)) = (-(-(Sp.rv n1 d1))) := (by first | grind | grind [Sp.rmin, Sp.rmax, Sp.rabs, Sp.rcmp, Sp.rsgn]); rw [qq]; first | (simp; done) | decide)))) <|
        .a 4 13 <| .p (does_c (fmax_ok n1 d1 (by omega) (by omega) (by omega) (by omega) n2 d2 (by omega) (by omega) (by omega) (by omega))) <| .a 1 13 <|
        .p (does_e true ((show (((Sp.qn (Sp.rmax (Sp.rv n1 d1) (Sp.rv n2 d2))) == (Sp.qn (-(-(Sp.rv n2 d2))))) && (((Sp.qd (Sp.rmax (Sp.rv n1 d1) (Sp.rv n2 d2))) == (Sp.qd (-(-(Sp.rv n2 d2))))) && true)) = true from (by have qq : (Sp.rmax (Sp.rv n1 d1) (Sp.rv n2 d2)) = (-(-(Sp.rv n2 d2))) := (by first | grind | grind [Sp.rmin, Sp.rmax, Sp.rabs, Sp.rcmp, Sp.rsgn]); rw [qq]; first | (simp; done) | decide)))) <|
        .a 2 13 <| .nil _ _) ?_
      refine aw_rt ?_
      exact en_ret [.bool true] (by kernel_rfl)
    · have h3p : ¬ (((Sp.rv n1 d1) < ((0 : Int) : Rat))) := by first | (simpa using h3) | (have h3q := h3; simp at h3q; omega) | (have h3q := bx2 h3; simp at h3q; omega)
      refine aw_sk ?_
      refine then_normal ?_
      refine aw_d 16383 (
        .a 4 13 <| .p (does_c (same_ok (Sp.qn ((Sp.rv n1 d1) + (Sp.rv n2 d2))) (Sp.qd ((Sp.rv n1 d1) + (Sp.rv n2 d2))) (Sp.qe ((Sp.rv n1 d1) + (Sp.rv n2 d2))))) <| .a 5 13 <|
        .p (does_c (same_ok (Sp.qn ((Sp.rv n1 d1) + (-(Sp.rv n2 d2)))) (Sp.qd ((Sp.rv n1 d1) + (-(Sp.rv n2 d2)))) (Sp.qe ((Sp.rv n1 d1) + (-(Sp.rv n2 d2)))))) <| .a 3 13 <| .p (does_c (fneg_ok n1 d1 (by omega) (by omega) (by omega) (by omega))) <| .a 1 13 <|
        .p (does_c (ropp_ok n1 d1 (by omega) (by omega) (by omega) (by omega))) <| .p (does_e true ((show (((Sp.qn (-(Sp.rv n1 d1))) == (Sp.qn (-(Sp.rv n1 d1)))) && (((Sp.qd (-(Sp.rv n1 d1))) == (Sp.qd (-(Sp.rv n1 d1)))) && true)) = true from by simp))) <| .a 3 13 <|
        .p (does_c (fabs_ok n1 d1 (by omega) (by omega) (by omega) (by omega))) <| .a 1 13 <|
        .p (does_e true ((show (((Sp.qn (Sp.rabs (Sp.rv n1 d1))) == (Sp.qn (-(-(Sp.rv n1 d1))))) && (((Sp.qd (Sp.rabs (Sp.rv n1 d1))) == (Sp.qd (-(-(Sp.rv n1 d1))))) && true)) = true from (by have qq : (Sp.rabs (Sp.rv n1 d1)) = (-(-(Sp.rv n1 d1))) := (by first | grind | grind [Sp.rmin, Sp.rmax, Sp.rabs, Sp.rcmp, Sp.rsgn]); rw [qq]; first | (simp; done) | decide)))) <|
        .a 3 13 <| .p (does_c (fsign_ok n1 d1 (by omega) (by omega) (by omega) (by omega))) <| .a 2 13 <| .p (does_c ((by have h := rorder_ok n1 d1 (by omega) (by omega) (by omega) (by omega) 0 1 (by decide) (by decide) (by decide) (by decide); rw [(Sp.rv_int 0 (by decide))] at h; exact h))) <|
        .p (does_b true ((show ((Sp.rsgn (Sp.rv n1 d1)) == (Sp.rcmp (Sp.rv n1 d1) ((0 : Int) : Rat))) = true from (by rw [beq_iff_eq]; first | exact (Sp.rcmp_zero _).symm | exact Sp.rcmp_zero _ | grind [Sp.rcmp, Sp.rsgn])))) <| .a 4 13 <|
        .p (does_c (fcmp_ok n1 d1 (by omega) (by omega) (by omega) (by omega) n2 d2 (by omega) (by omega) (by omega) (by omega))) <| .a 1 13 <| .p (does_b true ((show ((Sp.rcmp (Sp.rv n1 d1) (Sp.rv n2 d2)) == (Sp.rcmp (Sp.rv n1 d1) (Sp.rv n2 d2))) = true from by simp))) <| .a 4 13 <|
        .p (does_c (fmin_ok n1 d1 (by omega) (by omega) (by omega) (by omega) n2 d2 (by omega) (by omega) (by omega) (by omega))) <| .a 1 13 <|
        .p (does_e true ((show (((Sp.qn (Sp.rmin (Sp.rv n1 d1) (Sp.rv n2 d2))) == (Sp.qn (-(-(Sp.rv n1 d1))))) && (((Sp.qd (Sp.rmin (Sp.rv n1 d1) (Sp.rv n2 d2))) == (Sp.qd (-(-(Sp.rv n1 d1))))) && true)) = true from (by have qq : (Sp.rmin (Sp.rv n1 d1) (Sp.rv n2 d2)) = (-(-(Sp.rv n1 d1))) := (by first | grind | grind [Sp.rmin, Sp.rmax, Sp.rabs, Sp.rcmp, Sp.rsgn]); rw [qq]; first | (simp; done) | decide)))) <|
        .a 4 13 <| .p (does_c (fmax_ok n1 d1 (by omega) (by omega) (by omega) (by omega) n2 d2 (by omega) (by omega) (by omega) (by omega))) <| .a 1 13 <|
        .p (does_e true ((show (((Sp.qn (Sp.rmax (Sp.rv n1 d1) (Sp.rv n2 d2))) == (Sp.qn (-(-(Sp.rv n2 d2))))) && (((Sp.qd (Sp.rmax (Sp.rv n1 d1) (Sp.rv n2 d2))) == (Sp.qd (-(-(Sp.rv n2 d2))))) && true)) = true from (by have qq : (Sp.rmax (Sp.rv n1 d1) (Sp.rv n2 d2)) = (-(-(Sp.rv n2 d2))) := (by first | grind | grind [Sp.rmin, Sp.rmax, Sp.rabs, Sp.rcmp, Sp.rsgn]); rw [qq]; first | (simp; done) | decide)))) <|
        .a 2 13 <| .nil _ _) ?_
      refine aw_rt ?_
      exact en_ret [.bool true] (by kernel_rfl)


end Go.Proofs.Ythflpnpnlpaigaa.Am
