/-
  The walk of the law ProjAngles.
-/
import Derived.Test.YtcokagabchjilaaProg
import Derived.Test.YtcokagabchjilaaAm16
import Derived.Test.YtcokagabchjilaaPr5
import Derived.Test.YtcokagabchjilaaPr2
namespace Go.Proofs.Ytcokagabchjilaa.Am
open Go Go.Proofs
set_option maxRecDepth 100000
set_option maxHeartbeats 4000000
set_option linter.unusedVariables false
set_option linter.unusedSimpArgs false

theorem projAngles_walk (slat slon sc lat : Int) (zllat : -9223372036854775808 ≤ lat) (zulat : lat ≤ 9223372036854775807) :
    AC Try.prog 4 0 ([.agg #[.int .i64 slat, .int .i64 slon, .int .i64 sc], .int .i64 lat]) [] (.bool true) [] := by
  refine ac_in Try.func4 (fun w0 W pin => ?_)
  refine aw_p 3 (
    .a 2 1 <| .nil _ _) ?_
  refine aw_p 7 (
    .a 1 2 <| .nil _ _) ?_
  refine aw_sq 14 15 ?_
  rcases Bool.eq_false_or_eq_true (decide (slat < (-80000000))) with h1 | h1
  · have h1p : ((slat < (-80000000))) := by first | (simpa using h1) | (have h1q := h1; simp at h1q; omega) | (have h1q := bx1 h1; simp at h1q; omega)
    refine aw_p 29 (
      .a 2 2 <| .p (does_b true (h1)) <| .a 25 2 <| .nil _ _) ?_
    refine aw_tr 58 ?_
    refine aw_p1 (
      .a 1 2 <| .nil _ _) ?_
    refine then_normal ?_
    refine aw_sq 30 31 ?_
    refine aw_p 61 (
      .p (does_c (terrlaw1_projBegun_ok)) <| .a 3 2 <| .p (does_c (pcheck_no slat slon sc (by omega))) <| .a 3 2 <| .nil _ _) ?_
    refine aw_fl 123 ?_
    refine aw_sk ?_
    refine then_normal ?_
    rcases Bool.eq_false_or_eq_true (decide (lat < (-80000000))) with h6 | h6
    · have h6p : ((lat < (-80000000))) := by first | (simpa using h6) | (have h6q := h6; simp at h6q; omega) | (have h6q := bx1 h6; simp at h6q; omega)
      refine aw_p 63 (
        .a 1 2 <| .p (does_c (angle_no lat (by omega))) <| .a 6 2 <| .nil _ _) ?_
      refine aw_p 127 (
        .a 1 3 <| .p (does_c (cos_no lat (by omega))) <| .a 6 3 <| .nil _ _) ?_
      refine aw_sq 254 255 ?_
      refine aw_p 509 (
        .a 1 4 <| .p (does_b true (h6)) <| .a 4 4 <| .nil _ _) ?_
      refine aw_tr 1018 ?_
      refine aw_p 2037 (
        .a 2 4 <| .p (does_e true ((show (((0 == 0) && ((0 == 0) && true)) && (((0 == 0) && ((0 == 0) && true)) && true)) = true from by decide))) <| .a 3 4 <| .p (does_e true ((show (((0 == 0) && ((0 == 0) && true)) && (((0 == 0) && ((0 == 0) && true)) && true)) = true from by decide))) <| .a 10 4 <| .nil _ _) ?_
      refine aw_rt ?_
      refine then_ret ?_
      exact en_ret [.bool true] (by kernel_rfl)
    · have h6p : ¬ ((lat < (-80000000))) := by first | (simpa using h6) | (have h6q := h6; simp at h6q; omega) | (have h6q := bx2 h6; simp at h6q; omega)
      rcases Bool.eq_false_or_eq_true (decide (lat > 80000000)) with h7 | h7
      · have h7p : ((lat > 80000000)) := by first | (simpa using h7) | (have h7q := h7; simp at h7q; omega) | (have h7q := bx1 h7; simp at h7q; omega)
        refine aw_p 63 (
          .a 1 2 <| .p (does_c (angle_no lat (by omega))) <| .a 6 2 <| .nil _ _) ?_
        refine aw_p 127 (
          .a 1 3 <| .p (does_c (cos_no lat (by omega))) <| .a 6 3 <| .nil _ _) ?_
        refine aw_sq 254 255 ?_
        refine aw_p 509 (
          .a 1 4 <| .p (does_b false (h6)) <| .a 2 4 <| .p (does_b true (h7)) <| .a 1 4 <| .nil _ _) ?_
        refine aw_tr 1018 ?_
        refine aw_p 2037 (
          .a 2 4 <| .p (does_e true ((show (((0 == 0) && ((0 == 0) && true)) && (((0 == 0) && ((0 == 0) && true)) && true)) = true from by decide))) <| .a 3 4 <| .p (does_e true ((show (((0 == 0) && ((0 == 0) && true)) && (((0 == 0) && ((0 == 0) && true)) && true)) = true from by decide))) <| .a 10 4 <| .nil _ _) ?_
        refine aw_rt ?_
        refine then_ret ?_
        exact en_ret [.bool true] (by kernel_rfl)
      · have h7p : ¬ ((lat > 80000000)) := by first | (simpa using h7) | (have h7q := h7; simp at h7q; omega) | (have h7q := bx2 h7; simp at h7q; omega)
        have rb := Sp.rad_bd (lat := lat) (by omega) (by omega); have cb5 : ((-584701700 ≤ (Sp.cs lat 5).1 ∧ (Sp.cs lat 5).1 ≤ 584701700) ∧ (-584701700 ≤ (Sp.cs lat 5).2 ∧ (Sp.cs lat 5).2 ≤ 584701700)) ∧ (Sp.cs lat 5).1 ≤ (Sp.cs lat 5).2 := Sp.cs_bd (lat := lat) (by omega) (by omega) 5 (by decide)
        refine aw_p 63 (
          .a 1 2 <| .p (does_c (angle_ok lat (by omega) (by omega))) <| .a 6 2 <| .nil _ _) ?_
        refine aw_p 127 (
          .a 1 3 <| .p (does_c (cos_ok lat (by omega) (by omega))) <| .a 6 3 <| .nil _ _) ?_
        refine aw_sq 254 255 ?_
        refine aw_p 509 (
          .a 1 4 <| .p (does_b false (h6)) <| .a 2 4 <| .p (does_b false (h7)) <| .a 1 4 <| .nil _ _) ?_
        refine aw_fl 1019 ?_
        refine aw_sk ?_
        refine then_normal ?_
        refine aw_d 511 (
          .a 9 4 <| .p (does_c (rradians_ok lat (by omega) (by omega))) <| .p (does_c (fixed_ok ((Sp.rad lat).1) ((Sp.rad lat).2) 268435456 (by omega) (by omega) (by omega) (by omega) (by decide) (by decide))) <|
          .p (does_e true ((show ((((Sp.qn (Sp.fx 268435456 ((Sp.rad lat).1))) == (Sp.qn (Sp.fx 268435456 ((Sp.rad lat).1)))) && (((Sp.qd (Sp.fx 268435456 ((Sp.rad lat).1))) == (Sp.qd (Sp.fx 268435456 ((Sp.rad lat).1)))) && true)) && ((((Sp.qn (Sp.fx 268435456 ((Sp.rad lat).2))) == (Sp.qn (Sp.fx 268435456 ((Sp.rad lat).2)))) && (((Sp.qd (Sp.fx 268435456 ((Sp.rad lat).2))) == (Sp.qd (Sp.fx 268435456 ((Sp.rad lat).2)))) && true)) && true)) = true from by simp))) <|
          .a 4 4 <| .p (does_c (rcosine_ok lat (by omega) (by omega))) <| .p (does_c (fixed_ok ((Sp.cs lat 5).1) ((Sp.cs lat 5).2) 268435456 (by omega) (by omega) (by omega) (by omega) (by decide) (by decide))) <|
          .p (does_e true ((show ((((Sp.qn (Sp.fx 268435456 ((Sp.cs lat 5).1))) == (Sp.qn (Sp.fx 268435456 ((Sp.cs lat 5).1)))) && (((Sp.qd (Sp.fx 268435456 ((Sp.cs lat 5).1))) == (Sp.qd (Sp.fx 268435456 ((Sp.cs lat 5).1)))) && true)) && ((((Sp.qn (Sp.fx 268435456 ((Sp.cs lat 5).2))) == (Sp.qn (Sp.fx 268435456 ((Sp.cs lat 5).2)))) && (((Sp.qd (Sp.fx 268435456 ((Sp.cs lat 5).2))) == (Sp.qd (Sp.fx 268435456 ((Sp.cs lat 5).2)))) && true)) && true)) = true from by simp))) <|
          .a 2 4 <| .nil _ _) ?_
        refine aw_rt ?_
        exact en_ret [.bool true] (by kernel_rfl)
  · have h1p : ¬ ((slat < (-80000000))) := by first | (simpa using h1) | (have h1q := h1; simp at h1q; omega) | (have h1q := bx2 h1; simp at h1q; omega)
    rcases Bool.eq_false_or_eq_true (decide (slat > 80000000)) with h2 | h2
    · have h2p : ((slat > 80000000)) := by first | (simpa using h2) | (have h2q := h2; simp at h2q; omega) | (have h2q := bx1 h2; simp at h2q; omega)
      refine aw_p 29 (
        .a 2 2 <| .p (does_b false (h1)) <| .a 3 2 <| .p (does_b true (h2)) <| .a 21 2 <| .nil _ _) ?_
      refine aw_tr 58 ?_
      refine aw_p1 (
        .a 1 2 <| .nil _ _) ?_
      refine then_normal ?_
      refine aw_sq 30 31 ?_
      refine aw_p 61 (
        .p (does_c (terrlaw1_projBegun_ok)) <| .a 3 2 <| .p (does_c (pcheck_no slat slon sc (by omega))) <| .a 3 2 <| .nil _ _) ?_
      refine aw_fl 123 ?_
      refine aw_sk ?_
      refine then_normal ?_
      rcases Bool.eq_false_or_eq_true (decide (lat < (-80000000))) with h8 | h8
      · have h8p : ((lat < (-80000000))) := by first | (simpa using h8) | (have h8q := h8; simp at h8q; omega) | (have h8q := bx1 h8; simp at h8q; omega)
        refine aw_p 63 (
          .a 1 2 <| .p (does_c (angle_no lat (by omega))) <| .a 6 2 <| .nil _ _) ?_
        refine aw_p 127 (
          .a 1 3 <| .p (does_c (cos_no lat (by omega))) <| .a 6 3 <| .nil _ _) ?_
        refine aw_sq 254 255 ?_
        refine aw_p 509 (
          .a 1 4 <| .p (does_b true (h8)) <| .a 4 4 <| .nil _ _) ?_
        refine aw_tr 1018 ?_
        refine aw_p 2037 (
          .a 2 4 <| .p (does_e true ((show (((0 == 0) && ((0 == 0) && true)) && (((0 == 0) && ((0 == 0) && true)) && true)) = true from by decide))) <| .a 3 4 <| .p (does_e true ((show (((0 == 0) && ((0 == 0) && true)) && (((0 == 0) && ((0 == 0) && true)) && true)) = true from by decide))) <| .a 10 4 <| .nil _ _) ?_
        refine aw_rt ?_
        refine then_ret ?_
        exact en_ret [.bool true] (by kernel_rfl)
      · have h8p : ¬ ((lat < (-80000000))) := by first | (simpa using h8) | (have h8q := h8; simp at h8q; omega) | (have h8q := bx2 h8; simp at h8q; omega)
        rcases Bool.eq_false_or_eq_true (decide (lat > 80000000)) with h9 | h9
        · have h9p : ((lat > 80000000)) := by first | (simpa using h9) | (have h9q := h9; simp at h9q; omega) | (have h9q := bx1 h9; simp at h9q; omega)
          refine aw_p 63 (
            .a 1 2 <| .p (does_c (angle_no lat (by omega))) <| .a 6 2 <| .nil _ _) ?_
          refine aw_p 127 (
            .a 1 3 <| .p (does_c (cos_no lat (by omega))) <| .a 6 3 <| .nil _ _) ?_
          refine aw_sq 254 255 ?_
          refine aw_p 509 (
            .a 1 4 <| .p (does_b false (h8)) <| .a 2 4 <| .p (does_b true (h9)) <| .a 1 4 <| .nil _ _) ?_
          refine aw_tr 1018 ?_
          refine aw_p 2037 (
            .a 2 4 <| .p (does_e true ((show (((0 == 0) && ((0 == 0) && true)) && (((0 == 0) && ((0 == 0) && true)) && true)) = true from by decide))) <| .a 3 4 <| .p (does_e true ((show (((0 == 0) && ((0 == 0) && true)) && (((0 == 0) && ((0 == 0) && true)) && true)) = true from by decide))) <| .a 10 4 <| .nil _ _) ?_
          refine aw_rt ?_
          refine then_ret ?_
          exact en_ret [.bool true] (by kernel_rfl)
        · have h9p : ¬ ((lat > 80000000)) := by first | (simpa using h9) | (have h9q := h9; simp at h9q; omega) | (have h9q := bx2 h9; simp at h9q; omega)
          have rb := Sp.rad_bd (lat := lat) (by omega) (by omega); have cb5 : ((-584701700 ≤ (Sp.cs lat 5).1 ∧ (Sp.cs lat 5).1 ≤ 584701700) ∧ (-584701700 ≤ (Sp.cs lat 5).2 ∧ (Sp.cs lat 5).2 ≤ 584701700)) ∧ (Sp.cs lat 5).1 ≤ (Sp.cs lat 5).2 := Sp.cs_bd (lat := lat) (by omega) (by omega) 5 (by decide)
          refine aw_p 63 (
            .a 1 2 <| .p (does_c (angle_ok lat (by omega) (by omega))) <| .a 6 2 <| .nil _ _) ?_
          refine aw_p 127 (
            .a 1 3 <| .p (does_c (cos_ok lat (by omega) (by omega))) <| .a 6 3 <| .nil _ _) ?_
          refine aw_sq 254 255 ?_
          refine aw_p 509 (
            .a 1 4 <| .p (does_b false (h8)) <| .a 2 4 <| .p (does_b false (h9)) <| .a 1 4 <| .nil _ _) ?_
          refine aw_fl 1019 ?_
          refine aw_sk ?_
          refine then_normal ?_
          refine aw_d 511 (
            .a 9 4 <| .p (does_c (rradians_ok lat (by omega) (by omega))) <| .p (does_c (fixed_ok ((Sp.rad lat).1) ((Sp.rad lat).2) 268435456 (by omega) (by omega) (by omega) (by omega) (by decide) (by decide))) <|
            .p (does_e true ((show ((((Sp.qn (Sp.fx 268435456 ((Sp.rad lat).1))) == (Sp.qn (Sp.fx 268435456 ((Sp.rad lat).1)))) && (((Sp.qd (Sp.fx 268435456 ((Sp.rad lat).1))) == (Sp.qd (Sp.fx 268435456 ((Sp.rad lat).1)))) && true)) && ((((Sp.qn (Sp.fx 268435456 ((Sp.rad lat).2))) == (Sp.qn (Sp.fx 268435456 ((Sp.rad lat).2)))) && (((Sp.qd (Sp.fx 268435456 ((Sp.rad lat).2))) == (Sp.qd (Sp.fx 268435456 ((Sp.rad lat).2)))) && true)) && true)) = true from by simp))) <|
            .a 4 4 <| .p (does_c (rcosine_ok lat (by omega) (by omega))) <| .p (does_c (fixed_ok ((Sp.cs lat 5).1) ((Sp.cs lat 5).2) 268435456 (by omega) (by omega) (by omega) (by omega) (by decide) (by decide))) <|
            .p (does_e true ((show ((((Sp.qn (Sp.fx 268435456 ((Sp.cs lat 5).1))) == (Sp.qn (Sp.fx 268435456 ((Sp.cs lat 5).1)))) && (((Sp.qd (Sp.fx 268435456 ((Sp.cs lat 5).1))) == (Sp.qd (Sp.fx 268435456 ((Sp.cs lat 5).1)))) && true)) && ((((Sp.qn (Sp.fx 268435456 ((Sp.cs lat 5).2))) == (Sp.qn (Sp.fx 268435456 ((Sp.cs lat 5).2)))) && (((Sp.qd (Sp.fx 268435456 ((Sp.cs lat 5).2))) == (Sp.qd (Sp.fx 268435456 ((Sp.cs lat 5).2)))) && true)) && true)) = true from by simp))) <|
            .a 2 4 <| .nil _ _) ?_
          refine aw_rt ?_
          exact en_ret [.bool true] (by kernel_rfl)
    · have h2p : ¬ ((slat > 80000000)) := by first | (simpa using h2) | (have h2q := h2; simp at h2q; omega) | (have h2q := bx2 h2; simp at h2q; omega)
      rcases Bool.eq_false_or_eq_true (decide (slon < (-180000000))) with h3 | h3
      · have h3p : ((slon < (-180000000))) := by first | (simpa using h3) | (have h3q := h3; simp at h3q; omega) | (have h3q := bx1 h3; simp at h3q; omega)
        refine aw_p 29 (
          .a 2 2 <| .p (does_b false (h1)) <| .a 3 2 <| .p (does_b false (h2)) <| .a 4 2 <| .p (does_b true (h3)) <| .a 16 2 <| .nil _ _) ?_
        refine aw_tr 58 ?_
        refine aw_p1 (
          .a 1 2 <| .nil _ _) ?_
        refine then_normal ?_
        refine aw_sq 30 31 ?_
        refine aw_p 61 (
          .p (does_c (terrlaw1_projBegun_ok)) <| .a 3 2 <| .p (does_c (pcheck_no slat slon sc (by omega))) <| .a 3 2 <| .nil _ _) ?_
        refine aw_fl 123 ?_
        refine aw_sk ?_
        refine then_normal ?_
        rcases Bool.eq_false_or_eq_true (decide (lat < (-80000000))) with h10 | h10
        · have h10p : ((lat < (-80000000))) := by first | (simpa using h10) | (have h10q := h10; simp at h10q; omega) | (have h10q := bx1 h10; simp at h10q; omega)
          refine aw_p 63 (
            .a 1 2 <| .p (does_c (angle_no lat (by omega))) <| .a 6 2 <| .nil _ _) ?_
          refine aw_p 127 (
            .a 1 3 <| .p (does_c (cos_no lat (by omega))) <| .a 6 3 <| .nil _ _) ?_
          refine aw_sq 254 255 ?_
          refine aw_p 509 (
            .a 1 4 <| .p (does_b true (h10)) <| .a 4 4 <| .nil _ _) ?_
          refine aw_tr 1018 ?_
          refine aw_p 2037 (
            .a 2 4 <| .p (does_e true ((show (((0 == 0) && ((0 == 0) && true)) && (((0 == 0) && ((0 == 0) && true)) && true)) = true from by decide))) <| .a 3 4 <| .p (does_e true ((show (((0 == 0) && ((0 == 0) && true)) && (((0 == 0) && ((0 == 0) && true)) && true)) = true from by decide))) <| .a 10 4 <| .nil _ _) ?_
          refine aw_rt ?_
          refine then_ret ?_
          exact en_ret [.bool true] (by kernel_rfl)
        · have h10p : ¬ ((lat < (-80000000))) := by first | (simpa using h10) | (have h10q := h10; simp at h10q; omega) | (have h10q := bx2 h10; simp at h10q; omega)
          rcases Bool.eq_false_or_eq_true (decide (lat > 80000000)) with h11 | h11
          · have h11p : ((lat > 80000000)) := by first | (simpa using h11) | (have h11q := h11; simp at h11q; omega) | (have h11q := bx1 h11; simp at h11q; omega)
            refine aw_p 63 (
              .a 1 2 <| .p (does_c (angle_no lat (by omega))) <| .a 6 2 <| .nil _ _) ?_
            refine aw_p 127 (
              .a 1 3 <| .p (does_c (cos_no lat (by omega))) <| .a 6 3 <| .nil _ _) ?_
            refine aw_sq 254 255 ?_
            refine aw_p 509 (
              .a 1 4 <| .p (does_b false (h10)) <| .a 2 4 <| .p (does_b true (h11)) <| .a 1 4 <| .nil _ _) ?_
            refine aw_tr 1018 ?_
            refine aw_p 2037 (
              .a 2 4 <| .p (does_e true ((show (((0 == 0) && ((0 == 0) && true)) && (((0 == 0) && ((0 == 0) && true)) && true)) = true from by decide))) <| .a 3 4 <| .p (does_e true ((show (((0 == 0) && ((0 == 0) && true)) && (((0 == 0) && ((0 == 0) && true)) && true)) = true from by decide))) <| .a 10 4 <| .nil _ _) ?_
            refine aw_rt ?_
            refine then_ret ?_
            exact en_ret [.bool true] (by kernel_rfl)
          · have h11p : ¬ ((lat > 80000000)) := by first | (simpa using h11) | (have h11q := h11; simp at h11q; omega) | (have h11q := bx2 h11; simp at h11q; omega)
            have rb := Sp.rad_bd (lat := lat) (by omega) (by omega); have cb5 : ((-584701700 ≤ (Sp.cs lat 5).1 ∧ (Sp.cs lat 5).1 ≤ 584701700) ∧ (-584701700 ≤ (Sp.cs lat 5).2 ∧ (Sp.cs lat 5).2 ≤ 584701700)) ∧ (Sp.cs lat 5).1 ≤ (Sp.cs lat 5).2 := Sp.cs_bd (lat := lat) (by omega) (by omega) 5 (by decide)
            refine aw_p 63 (
              .a 1 2 <| .p (does_c (angle_ok lat (by omega) (by omega))) <| .a 6 2 <| .nil _ _) ?_
            refine aw_p 127 (
              .a 1 3 <| .p (does_c (cos_ok lat (by omega) (by omega))) <| .a 6 3 <| .nil _ _) ?_
            refine aw_sq 254 255 ?_
            refine aw_p 509 (
              .a 1 4 <| .p (does_b false (h10)) <| .a 2 4 <| .p (does_b false (h11)) <| .a 1 4 <| .nil _ _) ?_
            refine aw_fl 1019 ?_
            refine aw_sk ?_
            refine then_normal ?_
            refine aw_d 511 (
              .a 9 4 <| .p (does_c (rradians_ok lat (by omega) (by omega))) <| .p (does_c (fixed_ok ((Sp.rad lat).1) ((Sp.rad lat).2) 268435456 (by omega) (by omega) (by omega) (by omega) (by decide) (by decide))) <|
              .p (does_e true ((show ((((Sp.qn (Sp.fx 268435456 ((Sp.rad lat).1))) == (Sp.qn (Sp.fx 268435456 ((Sp.rad lat).1)))) && (((Sp.qd (Sp.fx 268435456 ((Sp.rad lat).1))) == (Sp.qd (Sp.fx 268435456 ((Sp.rad lat).1)))) && true)) && ((((Sp.qn (Sp.fx 268435456 ((Sp.rad lat).2))) == (Sp.qn (Sp.fx 268435456 ((Sp.rad lat).2)))) && (((Sp.qd (Sp.fx 268435456 ((Sp.rad lat).2))) == (Sp.qd (Sp.fx 268435456 ((Sp.rad lat).2)))) && true)) && true)) = true from by simp))) <|
              .a 4 4 <| .p (does_c (rcosine_ok lat (by omega) (by omega))) <| .p (does_c (fixed_ok ((Sp.cs lat 5).1) ((Sp.cs lat 5).2) 268435456 (by omega) (by omega) (by omega) (by omega) (by decide) (by decide))) <|
              .p (does_e true ((show ((((Sp.qn (Sp.fx 268435456 ((Sp.cs lat 5).1))) == (Sp.qn (Sp.fx 268435456 ((Sp.cs lat 5).1)))) && (((Sp.qd (Sp.fx 268435456 ((Sp.cs lat 5).1))) == (Sp.qd (Sp.fx 268435456 ((Sp.cs lat 5).1)))) && true)) && ((((Sp.qn (Sp.fx 268435456 ((Sp.cs lat 5).2))) == (Sp.qn (Sp.fx 268435456 ((Sp.cs lat 5).2)))) && (((Sp.qd (Sp.fx 268435456 ((Sp.cs lat 5).2))) == (Sp.qd (Sp.fx 268435456 ((Sp.cs lat 5).2)))) && true)) && true)) = true from by simp))) <|
              .a 2 4 <| .nil _ _) ?_
            refine aw_rt ?_
            exact en_ret [.bool true] (by kernel_rfl)
      · have h3p : ¬ ((slon < (-180000000))) := by first | (simpa using h3) | (have h3q := h3; simp at h3q; omega) | (have h3q := bx2 h3; simp at h3q; omega)
        rcases Bool.eq_false_or_eq_true (decide (slon > 180000000)) with h4 | h4
        · have h4p : ((slon > 180000000)) := by first | (simpa using h4) | (have h4q := h4; simp at h4q; omega) | (have h4q := bx1 h4; simp at h4q; omega)
          refine aw_p 29 (
            .a 2 2 <| .p (does_b false (h1)) <| .a 3 2 <| .p (does_b false (h2)) <| .a 4 2 <| .p (does_b false (h3)) <| .a 4 2 <| .p (does_b true (h4)) <| .a 11 2 <| .nil _ _) ?_
          refine aw_tr 58 ?_
          refine aw_p1 (
            .a 1 2 <| .nil _ _) ?_
          refine then_normal ?_
          refine aw_sq 30 31 ?_
          refine aw_p 61 (
            .p (does_c (terrlaw1_projBegun_ok)) <| .a 3 2 <| .p (does_c (pcheck_no slat slon sc (by omega))) <| .a 3 2 <| .nil _ _) ?_
          refine aw_fl 123 ?_
          refine aw_sk ?_
          refine then_normal ?_
          rcases Bool.eq_false_or_eq_true (decide (lat < (-80000000))) with h12 | h12
          · have h12p : ((lat < (-80000000))) := by first | (simpa using h12) | (have h12q := h12; simp at h12q; omega) | (have h12q := bx1 h12; simp at h12q; omega)
            refine aw_p 63 (
              .a 1 2 <| .p (does_c (angle_no lat (by omega))) <| .a 6 2 <| .nil _ _) ?_
            refine aw_p 127 (
              .a 1 3 <| .p (does_c (cos_no lat (by omega))) <| .a 6 3 <| .nil _ _) ?_
            refine aw_sq 254 255 ?_
            refine aw_p 509 (
              .a 1 4 <| .p (does_b true (h12)) <| .a 4 4 <| .nil _ _) ?_
            refine aw_tr 1018 ?_
            refine aw_p 2037 (
              .a 2 4 <| .p (does_e true ((show (((0 == 0) && ((0 == 0) && true)) && (((0 == 0) && ((0 == 0) && true)) && true)) = true from by decide))) <| .a 3 4 <| .p (does_e true ((show (((0 == 0) && ((0 == 0) && true)) && (((0 == 0) && ((0 == 0) && true)) && true)) = true from by decide))) <| .a 10 4 <| .nil _ _) ?_
            refine aw_rt ?_
            refine then_ret ?_
            exact en_ret [.bool true] (by kernel_rfl)
          · have h12p : ¬ ((lat < (-80000000))) := by first | (simpa using h12) | (have h12q := h12; simp at h12q; omega) | (have h12q := bx2 h12; simp at h12q; omega)
            rcases Bool.eq_false_or_eq_true (decide (lat > 80000000)) with h13 | h13
            · have h13p : ((lat > 80000000)) := by first | (simpa using h13) | (have h13q := h13; simp at h13q; omega) | (have h13q := bx1 h13; simp at h13q; omega)
              refine aw_p 63 (
                .a 1 2 <| .p (does_c (angle_no lat (by omega))) <| .a 6 2 <| .nil _ _) ?_
              refine aw_p 127 (
                .a 1 3 <| .p (does_c (cos_no lat (by omega))) <| .a 6 3 <| .nil _ _) ?_
              refine aw_sq 254 255 ?_
              refine aw_p 509 (
                .a 1 4 <| .p (does_b false (h12)) <| .a 2 4 <| .p (does_b true (h13)) <| .a 1 4 <| .nil _ _) ?_
              refine aw_tr 1018 ?_
              refine aw_p 2037 (
                .a 2 4 <| .p (does_e true ((show (((0 == 0) && ((0 == 0) && true)) && (((0 == 0) && ((0 == 0) && true)) && true)) = true from by decide))) <| .a 3 4 <| .p (does_e true ((show (((0 == 0) && ((0 == 0) && true)) && (((0 == 0) && ((0 == 0) && true)) && true)) = true from by decide))) <| .a 10 4 <| .nil _ _) ?_
              refine aw_rt ?_
              refine then_ret ?_
              exact en_ret [.bool true] (by kernel_rfl)
            · have h13p : ¬ ((lat > 80000000)) := by first | (simpa using h13) | (have h13q := h13; simp at h13q; omega) | (have h13q := bx2 h13; simp at h13q; omega)
              have rb := Sp.rad_bd (lat := lat) (by omega) (by omega); have cb5 : ((-584701700 ≤ (Sp.cs lat 5).1 ∧ (Sp.cs lat 5).1 ≤ 584701700) ∧ (-584701700 ≤ (Sp.cs lat 5).2 ∧ (Sp.cs lat 5).2 ≤ 584701700)) ∧ (Sp.cs lat 5).1 ≤ (Sp.cs lat 5).2 := Sp.cs_bd (lat := lat) (by omega) (by omega) 5 (by decide)
              refine aw_p 63 (
                .a 1 2 <| .p (does_c (angle_ok lat (by omega) (by omega))) <| .a 6 2 <| .nil _ _) ?_
              refine aw_p 127 (
                .a 1 3 <| .p (does_c (cos_ok lat (by omega) (by omega))) <| .a 6 3 <| .nil _ _) ?_
              refine aw_sq 254 255 ?_
              refine aw_p 509 (
                .a 1 4 <| .p (does_b false (h12)) <| .a 2 4 <| .p (does_b false (h13)) <| .a 1 4 <| .nil _ _) ?_
              refine aw_fl 1019 ?_
              refine aw_sk ?_
              refine then_normal ?_
              refine aw_d 511 (
                .a 9 4 <| .p (does_c (rradians_ok lat (by omega) (by omega))) <| .p (does_c (fixed_ok ((Sp.rad lat).1) ((Sp.rad lat).2) 268435456 (by omega) (by omega) (by omega) (by omega) (by decide) (by decide))) <|
                .p (does_e true ((show ((((Sp.qn (Sp.fx 268435456 ((Sp.rad lat).1))) == (Sp.qn (Sp.fx 268435456 ((Sp.rad lat).1)))) && (((Sp.qd (Sp.fx 268435456 ((Sp.rad lat).1))) == (Sp.qd (Sp.fx 268435456 ((Sp.rad lat).1)))) && true)) && ((((Sp.qn (Sp.fx 268435456 ((Sp.rad lat).2))) == (Sp.qn (Sp.fx 268435456 ((Sp.rad lat).2)))) && (((Sp.qd (Sp.fx 268435456 ((Sp.rad lat).2))) == (Sp.qd (Sp.fx 268435456 ((Sp.rad lat).2)))) && true)) && true)) = true from by simp))) <|
                .a 4 4 <| .p (does_c (rcosine_ok lat (by omega) (by omega))) <| .p (does_c (fixed_ok ((Sp.cs lat 5).1) ((Sp.cs lat 5).2) 268435456 (by omega) (by omega) (by omega) (by omega) (by decide) (by decide))) <|
                .p (does_e true ((show ((((Sp.qn (Sp.fx 268435456 ((Sp.cs lat 5).1))) == (Sp.qn (Sp.fx 268435456 ((Sp.cs lat 5).1)))) && (((Sp.qd (Sp.fx 268435456 ((Sp.cs lat 5).1))) == (Sp.qd (Sp.fx 268435456 ((Sp.cs lat 5).1)))) && true)) && ((((Sp.qn (Sp.fx 268435456 ((Sp.cs lat 5).2))) == (Sp.qn (Sp.fx 268435456 ((Sp.cs lat 5).2)))) && (((Sp.qd (Sp.fx 268435456 ((Sp.cs lat 5).2))) == (Sp.qd (Sp.fx 268435456 ((Sp.cs lat 5).2)))) && true)) && true)) = true from by simp))) <|
                .a 2 4 <| .nil _ _) ?_
              refine aw_rt ?_
              exact en_ret [.bool true] (by kernel_rfl)
        · have h4p : ¬ ((slon > 180000000)) := by first | (simpa using h4) | (have h4q := h4; simp at h4q; omega) | (have h4q := bx2 h4; simp at h4q; omega)
          rcases Bool.eq_false_or_eq_true (decide (sc < 1)) with h5 | h5
          · have h5p : ((sc < 1)) := by first | (simpa using h5) | (have h5q := h5; simp at h5q; omega) | (have h5q := bx1 h5; simp at h5q; omega)
            refine aw_p 29 (
              .a 2 2 <| .p (does_b false (h1)) <| .a 3 2 <| .p (does_b false (h2)) <| .a 4 2 <| .p (does_b false (h3)) <| .a 4 2 <| .p (does_b false (h4)) <| .a 4 2 <| .p (does_b true (h5)) <| .a 6 2 <| .nil _ _) ?_
            refine aw_tr 58 ?_
            refine aw_p1 (
              .a 1 2 <| .nil _ _) ?_
            refine then_normal ?_
            refine aw_sq 30 31 ?_
            refine aw_p 61 (
              .p (does_c (terrlaw1_projBegun_ok)) <| .a 3 2 <| .p (does_c (pcheck_no slat slon sc (by omega))) <| .a 3 2 <| .nil _ _) ?_
            refine aw_fl 123 ?_
            refine aw_sk ?_
            refine then_normal ?_
            rcases Bool.eq_false_or_eq_true (decide (lat < (-80000000))) with h14 | h14
            · have h14p : ((lat < (-80000000))) := by first | (simpa using h14) | (have h14q := h14; simp at h14q; omega) | (have h14q := bx1 h14; simp at h14q; omega)
              refine aw_p 63 (
                .a 1 2 <| .p (does_c (angle_no lat (by omega))) <| .a 6 2 <| .nil _ _) ?_
              refine aw_p 127 (
                .a 1 3 <| .p (does_c (cos_no lat (by omega))) <| .a 6 3 <| .nil _ _) ?_
              refine aw_sq 254 255 ?_
              refine aw_p 509 (
                .a 1 4 <| .p (does_b true (h14)) <| .a 4 4 <| .nil _ _) ?_
              refine aw_tr 1018 ?_
              refine aw_p 2037 (
                .a 2 4 <| .p (does_e true ((show (((0 == 0) && ((0 == 0) && true)) && (((0 == 0) && ((0 == 0) && true)) && true)) = true from by decide))) <| .a 3 4 <| .p (does_e true ((show (((0 == 0) && ((0 == 0) && true)) && (((0 == 0) && ((0 == 0) && true)) && true)) = true from by decide))) <| .a 10 4 <| .nil _ _) ?_
              refine aw_rt ?_
              refine then_ret ?_
              exact en_ret [.bool true] (by kernel_rfl)
            · have h14p : ¬ ((lat < (-80000000))) := by first | (simpa using h14) | (have h14q := h14; simp at h14q; omega) | (have h14q := bx2 h14; simp at h14q; omega)
              rcases Bool.eq_false_or_eq_true (decide (lat > 80000000)) with h15 | h15
              · have h15p : ((lat > 80000000)) := by first | (simpa using h15) | (have h15q := h15; simp at h15q; omega) | (have h15q := bx1 h15; simp at h15q; omega)
                refine aw_p 63 (
                  .a 1 2 <| .p (does_c (angle_no lat (by omega))) <| .a 6 2 <| .nil _ _) ?_
                refine aw_p 127 (
                  .a 1 3 <| .p (does_c (cos_no lat (by omega))) <| .a 6 3 <| .nil _ _) ?_
                refine aw_sq 254 255 ?_
                refine aw_p 509 (
                  .a 1 4 <| .p (does_b false (h14)) <| .a 2 4 <| .p (does_b true (h15)) <| .a 1 4 <| .nil _ _) ?_
                refine aw_tr 1018 ?_
                refine aw_p 2037 (
                  .a 2 4 <| .p (does_e true ((show (((0 == 0) && ((0 == 0) && true)) && (((0 == 0) && ((0 == 0) && true)) && true)) = true from by decide))) <| .a 3 4 <| .p (does_e true ((show (((0 == 0) && ((0 == 0) && true)) && (((0 == 0) && ((0 == 0) && true)) && true)) = true from by decide))) <| .a 10 4 <| .nil _ _) ?_
                refine aw_rt ?_
                refine then_ret ?_
                exact en_ret [.bool true] (by kernel_rfl)
              · have h15p : ¬ ((lat > 80000000)) := by first | (simpa using h15) | (have h15q := h15; simp at h15q; omega) | (have h15q := bx2 h15; simp at h15q; omega)
                have rb := Sp.rad_bd (lat := lat) (by omega) (by omega); have cb5 : ((-584701700 ≤ (Sp.cs lat 5).1 ∧ (Sp.cs lat 5).1 ≤ 584701700) ∧ (-584701700 ≤ (Sp.cs lat 5).2 ∧ (Sp.cs lat 5).2 ≤ 584701700)) ∧ (Sp.cs lat 5).1 ≤ (Sp.cs lat 5).2 := Sp.cs_bd (lat := lat) (by omega) (by omega) 5 (by decide)
                refine aw_p 63 (
                  .a 1 2 <| .p (does_c (angle_ok lat (by omega) (by omega))) <| .a 6 2 <| .nil _ _) ?_
                refine aw_p 127 (
                  .a 1 3 <| .p (does_c (cos_ok lat (by omega) (by omega))) <| .a 6 3 <| .nil _ _) ?_
                refine aw_sq 254 255 ?_
                refine aw_p 509 (
                  .a 1 4 <| .p (does_b false (h14)) <| .a 2 4 <| .p (does_b false (h15)) <| .a 1 4 <| .nil _ _) ?_
                refine aw_fl 1019 ?_
                refine aw_sk ?_
                refine then_normal ?_
                refine aw_d 511 (
                  .a 9 4 <| .p (does_c (rradians_ok lat (by omega) (by omega))) <| .p (does_c (fixed_ok ((Sp.rad lat).1) ((Sp.rad lat).2) 268435456 (by omega) (by omega) (by omega) (by omega) (by decide) (by decide))) <|
                  .p (does_e true ((show ((((Sp.qn (Sp.fx 268435456 ((Sp.rad lat).1))) == (Sp.qn (Sp.fx 268435456 ((Sp.rad lat).1)))) && (((Sp.qd (Sp.fx 268435456 ((Sp.rad lat).1))) == (Sp.qd (Sp.fx 268435456 ((Sp.rad lat).1)))) && true)) && ((((Sp.qn (Sp.fx 268435456 ((Sp.rad lat).2))) == (Sp.qn (Sp.fx 268435456 ((Sp.rad lat).2)))) && (((Sp.qd (Sp.fx 268435456 ((Sp.rad lat).2))) == (Sp.qd (Sp.fx 268435456 ((Sp.rad lat).2)))) && true)) && true)) = true from by simp))) <|
                  .a 4 4 <| .p (does_c (rcosine_ok lat (by omega) (by omega))) <| .p (does_c (fixed_ok ((Sp.cs lat 5).1) ((Sp.cs lat 5).2) 268435456 (by omega) (by omega) (by omega) (by omega) (by decide) (by decide))) <|
                  .p (does_e true ((show ((((Sp.qn (Sp.fx 268435456 ((Sp.cs lat 5).1))) == (Sp.qn (Sp.fx 268435456 ((Sp.cs lat 5).1)))) && (((Sp.qd (Sp.fx 268435456 ((Sp.cs lat 5).1))) == (Sp.qd (Sp.fx 268435456 ((Sp.cs lat 5).1)))) && true)) && ((((Sp.qn (Sp.fx 268435456 ((Sp.cs lat 5).2))) == (Sp.qn (Sp.fx 268435456 ((Sp.cs lat 5).2)))) && (((Sp.qd (Sp.fx 268435456 ((Sp.cs lat 5).2))) == (Sp.qd (Sp.fx 268435456 ((Sp.cs lat 5).2)))) && true)) && true)) = true from by simp))) <|
                  .a 2 4 <| .nil _ _) ?_
                refine aw_rt ?_
                exact en_ret [.bool true] (by kernel_rfl)
          · have h5p : ¬ ((sc < 1)) := by first | (simpa using h5) | (have h5q := h5; simp at h5q; omega) | (have h5q := bx2 h5; simp at h5q; omega)
            refine aw_p 29 (
              .a 2 2 <| .p (does_b false (h1)) <| .a 3 2 <| .p (does_b false (h2)) <| .a 4 2 <| .p (does_b false (h3)) <| .a 4 2 <| .p (does_b false (h4)) <| .a 4 2 <| .p (does_b false (h5)) <| .a 6 2 <| .nil _ _) ?_
            refine aw_cd 58 59 (decide (sc > 10000)) (fun h16 => ?_) (fun h16 => ?_)
            · have h16p : ((sc > 10000)) := by first | (simpa using h16) | (have h16q := h16; simp at h16q; omega) | (have h16q := bx1 h16; simp at h16q; omega)
              refine aw_p1 (
                .a 1 2 <| .nil _ _) ?_
              refine then_normal ?_
              refine aw_sq 30 31 ?_
              refine aw_p 61 (
                .p (does_c (terrlaw1_projBegun_ok)) <| .a 3 2 <| .p (does_c (pcheck_no slat slon sc (by omega))) <| .a 3 2 <| .nil _ _) ?_
              refine aw_fl 123 ?_
              refine aw_sk ?_
              refine then_normal ?_
              rcases Bool.eq_false_or_eq_true (decide (lat < (-80000000))) with h17 | h17
              · have h17p : ((lat < (-80000000))) := by first | (simpa using h17) | (have h17q := h17; simp at h17q; omega) | (have h17q := bx1 h17; simp at h17q; omega)
                refine aw_p 63 (
                  .a 1 2 <| .p (does_c (angle_no lat (by omega))) <| .a 6 2 <| .nil _ _) ?_
                refine aw_p 127 (
                  .a 1 3 <| .p (does_c (cos_no lat (by omega))) <| .a 6 3 <| .nil _ _) ?_
                refine aw_sq 254 255 ?_
                refine aw_p 509 (
                  .a 1 4 <| .p (does_b true (h17)) <| .a 4 4 <| .nil _ _) ?_
                refine aw_tr 1018 ?_
                refine aw_p 2037 (
                  .a 2 4 <| .p (does_e true ((show (((0 == 0) && ((0 == 0) && true)) && (((0 == 0) && ((0 == 0) && true)) && true)) = true from by decide))) <| .a 3 4 <| .p (does_e true ((show (((0 == 0) && ((0 == 0) && true)) && (((0 == 0) && ((0 == 0) && true)) && true)) = true from by decide))) <| .a 10 4 <| .nil _ _) ?_
                refine aw_rt ?_
                refine then_ret ?_
                exact en_ret [.bool true] (by kernel_rfl)
              · have h17p : ¬ ((lat < (-80000000))) := by first | (simpa using h17) | (have h17q := h17; simp at h17q; omega) | (have h17q := bx2 h17; simp at h17q; omega)
                rcases Bool.eq_false_or_eq_true (decide (lat > 80000000)) with h18 | h18
                · have h18p : ((lat > 80000000)) := by first | (simpa using h18) | (have h18q := h18; simp at h18q; omega) | (have h18q := bx1 h18; simp at h18q; omega)
                  refine aw_p 63 (
                    .a 1 2 <| .p (does_c (angle_no lat (by omega))) <| .a 6 2 <| .nil _ _) ?_
                  refine aw_p 127 (
                    .a 1 3 <| .p (does_c (cos_no lat (by omega))) <| .a 6 3 <| .nil _ _) ?_
                  refine aw_sq 254 255 ?_
                  refine aw_p 509 (
                    .a 1 4 <| .p (does_b false (h17)) <| .a 2 4 <| .p (does_b true (h18)) <| .a 1 4 <| .nil _ _) ?_
                  refine aw_tr 1018 ?_
                  refine aw_p 2037 (
                    .a 2 4 <| .p (does_e true ((show (((0 == 0) && ((0 == 0) && true)) && (((0 == 0) && ((0 == 0) && true)) && true)) = true from by decide))) <| .a 3 4 <| .p (does_e true ((show (((0 == 0) && ((0 == 0) && true)) && (((0 == 0) && ((0 == 0) && true)) && true)) = true from by decide))) <| .a 10 4 <| .nil _ _) ?_
                  refine aw_rt ?_
                  refine then_ret ?_
                  exact en_ret [.bool true] (by kernel_rfl)
                · have h18p : ¬ ((lat > 80000000)) := by first | (simpa using h18) | (have h18q := h18; simp at h18q; omega) | (have h18q := bx2 h18; simp at h18q; omega)
                  have rb := Sp.rad_bd (lat := lat) (by omega) (by omega); have cb5 : ((-584701700 ≤ (Sp.cs lat 5).1 ∧ (Sp.cs lat 5).1 ≤ 584701700) ∧ (-584701700 ≤ (Sp.cs lat 5).2 ∧ (Sp.cs lat 5).2 ≤ 584701700)) ∧ (Sp.cs lat 5).1 ≤ (Sp.cs lat 5).2 := Sp.cs_bd (lat := lat) (by omega) (by omega) 5 (by decide)
                  refine aw_p 63 (
                    .a 1 2 <| .p (does_c (angle_ok lat (by omega) (by omega))) <| .a 6 2 <| .nil _ _) ?_
                  refine aw_p 127 (
                    .a 1 3 <| .p (does_c (cos_ok lat (by omega) (by omega))) <| .a 6 3 <| .nil _ _) ?_
                  refine aw_sq 254 255 ?_
                  refine aw_p 509 (
                    .a 1 4 <| .p (does_b false (h17)) <| .a 2 4 <| .p (does_b false (h18)) <| .a 1 4 <| .nil _ _) ?_
                  refine aw_fl 1019 ?_
                  refine aw_sk ?_
                  refine then_normal ?_
                  refine aw_d 511 (
                    .a 9 4 <| .p (does_c (rradians_ok lat (by omega) (by omega))) <| .p (does_c (fixed_ok ((Sp.rad lat).1) ((Sp.rad lat).2) 268435456 (by omega) (by omega) (by omega) (by omega) (by decide) (by decide))) <|
                    .p (does_e true ((show ((((Sp.qn (Sp.fx 268435456 ((Sp.rad lat).1))) == (Sp.qn (Sp.fx 268435456 ((Sp.rad lat).1)))) && (((Sp.qd (Sp.fx 268435456 ((Sp.rad lat).1))) == (Sp.qd (Sp.fx 268435456 ((Sp.rad lat).1)))) && true)) && ((((Sp.qn (Sp.fx 268435456 ((Sp.rad lat).2))) == (Sp.qn (Sp.fx 268435456 ((Sp.rad lat).2)))) && (((Sp.qd (Sp.fx 268435456 ((Sp.rad lat).2))) == (Sp.qd (Sp.fx 268435456 ((Sp.rad lat).2)))) && true)) && true)) = true from by simp))) <|
                    .a 4 4 <| .p (does_c (rcosine_ok lat (by omega) (by omega))) <| .p (does_c (fixed_ok ((Sp.cs lat 5).1) ((Sp.cs lat 5).2) 268435456 (by omega) (by omega) (by omega) (by omega) (by decide) (by decide))) <|
                    .p (does_e true ((show ((((Sp.qn (Sp.fx 268435456 ((Sp.cs lat 5).1))) == (Sp.qn (Sp.fx 268435456 ((Sp.cs lat 5).1)))) && (((Sp.qd (Sp.fx 268435456 ((Sp.cs lat 5).1))) == (Sp.qd (Sp.fx 268435456 ((Sp.cs lat 5).1)))) && true)) && ((((Sp.qn (Sp.fx 268435456 ((Sp.cs lat 5).2))) == (Sp.qn (Sp.fx 268435456 ((Sp.cs lat 5).2)))) && (((Sp.qd (Sp.fx 268435456 ((Sp.cs lat 5).2))) == (Sp.qd (Sp.fx 268435456 ((Sp.cs lat 5).2)))) && true)) && true)) = true from by simp))) <|
                    .a 2 4 <| .nil _ _) ?_
                  refine aw_rt ?_
                  exact en_ret [.bool true] (by kernel_rfl)
            · have h16p : ¬ ((sc > 10000)) := by first | (simpa using h16) | (have h16q := h16; simp at h16q; omega) | (have h16q := bx2 h16; simp at h16q; omega)
              refine aw_sk ?_
              refine then_normal ?_
              refine aw_sq 30 31 ?_
              refine aw_p 61 (
                .p (does_c (terrlaw1_projBegun_ok)) <| .a 3 2 <| .p (does_c (pcheck_ok slat slon sc (by omega) (by omega) (by omega) (by omega) (by omega) (by omega))) <| .a 3 2 <| .nil _ _) ?_
              refine aw_fl 123 ?_
              refine aw_sk ?_
              refine then_normal ?_
              rcases Bool.eq_false_or_eq_true (decide (lat < (-80000000))) with h19 | h19
              · have h19p : ((lat < (-80000000))) := by first | (simpa using h19) | (have h19q := h19; simp at h19q; omega) | (have h19q := bx1 h19; simp at h19q; omega)
                refine aw_p 63 (
                  .a 1 2 <| .p (does_c (angle_no lat (by omega))) <| .a 6 2 <| .nil _ _) ?_
                refine aw_p 127 (
                  .a 1 3 <| .p (does_c (cos_no lat (by omega))) <| .a 6 3 <| .nil _ _) ?_
                refine aw_sq 254 255 ?_
                refine aw_p 509 (
                  .a 1 4 <| .p (does_b true (h19)) <| .a 4 4 <| .nil _ _) ?_
                refine aw_tr 1018 ?_
                refine aw_p 2037 (
                  .a 2 4 <| .p (does_e true ((show (((0 == 0) && ((0 == 0) && true)) && (((0 == 0) && ((0 == 0) && true)) && true)) = true from by decide))) <| .a 3 4 <| .p (does_e true ((show (((0 == 0) && ((0 == 0) && true)) && (((0 == 0) && ((0 == 0) && true)) && true)) = true from by decide))) <| .a 10 4 <| .nil _ _) ?_
                refine aw_rt ?_
                refine then_ret ?_
                exact en_ret [.bool true] (by kernel_rfl)
              · have h19p : ¬ ((lat < (-80000000))) := by first | (simpa using h19) | (have h19q := h19; simp at h19q; omega) | (have h19q := bx2 h19; simp at h19q; omega)
                rcases Bool.eq_false_or_eq_true (decide (lat > 80000000)) with h20 | h20
                · have h20p : ((lat > 80000000)) := by first | (simpa using h20) | (have h20q := h20; simp at h20q; omega) | (have h20q := bx1 h20; simp at h20q; omega)
                  refine aw_p 63 (
                    .a 1 2 <| .p (does_c (angle_no lat (by omega))) <| .a 6 2 <| .nil _ _) ?_
                  refine aw_p 127 (
                    .a 1 3 <| .p (does_c (cos_no lat (by omega))) <| .a 6 3 <| .nil _ _) ?_
                  refine aw_sq 254 255 ?_
                  refine aw_p 509 (
                    .a 1 4 <| .p (does_b false (h19)) <| .a 2 4 <| .p (does_b true (h20)) <| .a 1 4 <| .nil _ _) ?_
                  refine aw_tr 1018 ?_
                  refine aw_p 2037 (
                    .a 2 4 <| .p (does_e true ((show (((0 == 0) && ((0 == 0) && true)) && (((0 == 0) && ((0 == 0) && true)) && true)) = true from by decide))) <| .a 3 4 <| .p (does_e true ((show (((0 == 0) && ((0 == 0) && true)) && (((0 == 0) && ((0 == 0) && true)) && true)) = true from by decide))) <| .a 10 4 <| .nil _ _) ?_
                  refine aw_rt ?_
                  refine then_ret ?_
                  exact en_ret [.bool true] (by kernel_rfl)
                · have h20p : ¬ ((lat > 80000000)) := by first | (simpa using h20) | (have h20q := h20; simp at h20q; omega) | (have h20q := bx2 h20; simp at h20q; omega)
                  have rb := Sp.rad_bd (lat := lat) (by omega) (by omega); have cb5 : ((-584701700 ≤ (Sp.cs lat 5).1 ∧ (Sp.cs lat 5).1 ≤ 584701700) ∧ (-584701700 ≤ (Sp.cs lat 5).2 ∧ (Sp.cs lat 5).2 ≤ 584701700)) ∧ (Sp.cs lat 5).1 ≤ (Sp.cs lat 5).2 := Sp.cs_bd (lat := lat) (by omega) (by omega) 5 (by decide)
                  refine aw_p 63 (
                    .a 1 2 <| .p (does_c (angle_ok lat (by omega) (by omega))) <| .a 6 2 <| .nil _ _) ?_
                  refine aw_p 127 (
                    .a 1 3 <| .p (does_c (cos_ok lat (by omega) (by omega))) <| .a 6 3 <| .nil _ _) ?_
                  refine aw_sq 254 255 ?_
                  refine aw_p 509 (
                    .a 1 4 <| .p (does_b false (h19)) <| .a 2 4 <| .p (does_b false (h20)) <| .a 1 4 <| .nil _ _) ?_
                  refine aw_fl 1019 ?_
                  refine aw_sk ?_
                  refine then_normal ?_
                  refine aw_d 511 (
                    .a 9 4 <| .p (does_c (rradians_ok lat (by omega) (by omega))) <| .p (does_c (fixed_ok ((Sp.rad lat).1) ((Sp.rad lat).2) 268435456 (by omega) (by omega) (by omega) (by omega) (by decide) (by decide))) <|
                    .p (does_e true ((show ((((Sp.qn (Sp.fx 268435456 ((Sp.rad lat).1))) == (Sp.qn (Sp.fx 268435456 ((Sp.rad lat).1)))) && (((Sp.qd (Sp.fx 268435456 ((Sp.rad lat).1))) == (Sp.qd (Sp.fx 268435456 ((Sp.rad lat).1)))) && true)) && ((((Sp.qn (Sp.fx 268435456 ((Sp.rad lat).2))) == (Sp.qn (Sp.fx 268435456 ((Sp.rad lat).2)))) && (((Sp.qd (Sp.fx 268435456 ((Sp.rad lat).2))) == (Sp.qd (Sp.fx 268435456 ((Sp.rad lat).2)))) && true)) && true)) = true from by simp))) <|
                    .a 4 4 <| .p (does_c (rcosine_ok lat (by omega) (by omega))) <| .p (does_c (fixed_ok ((Sp.cs lat 5).1) ((Sp.cs lat 5).2) 268435456 (by omega) (by omega) (by omega) (by omega) (by decide) (by decide))) <|
                    .p (does_e true ((show ((((Sp.qn (Sp.fx 268435456 ((Sp.cs lat 5).1))) == (Sp.qn (Sp.fx 268435456 ((Sp.cs lat 5).1)))) && (((Sp.qd (Sp.fx 268435456 ((Sp.cs lat 5).1))) == (Sp.qd (Sp.fx 268435456 ((Sp.cs lat 5).1)))) && true)) && ((((Sp.qn (Sp.fx 268435456 ((Sp.cs lat 5).2))) == (Sp.qn (Sp.fx 268435456 ((Sp.cs lat 5).2)))) && (((Sp.qd (Sp.fx 268435456 ((Sp.cs lat 5).2))) == (Sp.qd (Sp.fx 268435456 ((Sp.cs lat 5).2)))) && true)) && true)) = true from by simp))) <|
                    .a 2 4 <| .nil _ _) ?_
                  refine aw_rt ?_
                  exact en_ret [.bool true] (by kernel_rfl)


end Go.Proofs.Ytcokagabchjilaa.Am
