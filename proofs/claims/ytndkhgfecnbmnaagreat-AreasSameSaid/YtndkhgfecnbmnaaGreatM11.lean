import Derived.Test.YtndkhgfecnbmnaaGreatProg
import Derived.Test.YtndkhgfecnbmnaaGreatM2
import Derived.Test.YtndkhgfecnbmnaaGreatM6
import Derived.Test.YtndkhgfecnbmnaaGreatM3
import Derived.Test.YtndkhgfecnbmnaaGreatM7
import Derived.Test.YtndkhgfecnbmnaaGreatM8
import Derived.Test.YtndkhgfecnbmnaaGreatM9
import Derived.Test.YtndkhgfecnbmnaaGreatM10
namespace Go.Proofs.YtndkhgfecnbmnaaGreat.Am
open Go Go.Proofs
set_option maxRecDepth 100000
set_option maxHeartbeats 4000000
set_option linter.unusedVariables false
set_option linter.unusedSimpArgs false
theorem acheck_n3 (R1 R2 R3 : List (Int × Int)) (zR1 : 1 ≤ R1.length ∧ R1.length ≤ 200) (fR1 : Sp.Few 1000 R1) (zR2 : 1 ≤ R2.length ∧ R2.length ≤ 200) (fR2 : Sp.Few 1000 R2) (zR3 : 1 ≤ R3.length ∧ R3.length ≤ 200) (fR3 : Sp.Few 1000 R3) (cR1 : Sp.chkF R1 = 0) (cR2 : Sp.chkF R2 = 0) (cR3 : Sp.chkF R3 = 0) (F21 : Sp.Fit R2 R1 1 (-1)) (F31 : Sp.Fit R3 R1 1 (-1)) (F32 : Sp.Fit R3 R2 1 (-1)) :
    AC Tryz.prog 8 4 ([sV 0 3]) [(0, ⟨[sV 1 R1.length, sV 2 R2.length, sV 3 R3.length], 39, true, 1⟩), (1, (pB R1)), (2, (pB R2)), (3, (pB R3))] (.int .i64 0) [(0, ⟨[sV 1 R1.length, sV 2 R2.length, sV 3 R3.length], 39, true, 1⟩), (1, (pB R1)), (2, (pB R2)), (3, (pB R3))] := by
  refine ac_in Tryz.func8 (fun w0 W pin => ?_)
  refine aw_p 3 (
    .a 1 4 <| .nil _ _) ?_
  refine aw_sq 6 7 ?_
  refine aw_p 13 (
    .a 3 4 <| .nil _ _) ?_
  refine aw_fl 27 ?_
  refine aw_sk ?_
  refine then_normal ?_
  refine aw_sq 14 15 ?_
  refine aw_p 29 (
    .a 3 4 <| .nil _ _) ?_
  refine aw_bl 0 59 ?_
  refine aw_lp 119 ?_
  refine al_round ?_
  refine aw_p 239 (
    .a 1 4 <| .nil _ _) ?_
  refine aw_sq 478 479 ?_
  refine aw_tr 956 ?_
  refine aw_sk ?_
  refine then_normal ?_
  refine aw_sq 958 959 ?_
  refine aw_bl 1 1917 ?_
  refine aw_p 3835 (
    .a 3 4 <| .nil _ _) ?_
  refine aw_p 7671 (
    .a 1 4 <| .p (cS (m := 1) (args0 := [sV 0 R1.length]) (pre0 := [(0, (pB R1))]) (v0 := .int .i64 0) #[.tmp 19] #[39] [sV 1 R1.length] [1] [(1, (pB R1))] (.int .i64 0) ((by have h := chkn_own R1 R1.length rfl (by omega); rw [cR1] at h; exact h)) (.cons rS .nil) ⟨rfl, bP, trivial⟩ rF) <| .a 1 4 <| .nil _ _) ?_
  refine aw_p 15343 (
    .a 2 4 <| .nil _ _) ?_
  refine aw_fl 30687 ?_
  refine aw_sk ?_
  refine block_normal ?_
  refine then_normal ?_
  refine aw_p1 (
    .a 2 4 <| .nil _ _) ?_
  refine then_normal ?_
  refine al_round ?_
  refine aw_p 239 (
    .a 1 4 <| .nil _ _) ?_
  refine aw_sq 478 479 ?_
  refine aw_tr 956 ?_
  refine aw_sk ?_
  refine then_normal ?_
  refine aw_sq 958 959 ?_
  refine aw_bl 1 1917 ?_
  refine aw_p 3835 (
    .a 3 4 <| .nil _ _) ?_
  refine aw_p 7671 (
    .a 1 4 <| .p (cS (m := 1) (args0 := [sV 0 R2.length]) (pre0 := [(0, (pB R2))]) (v0 := .int .i64 0) #[.tmp 19] #[39] [sV 2 R2.length] [2] [(2, (pB R2))] (.int .i64 0) ((by have h := chkn_own R2 R2.length rfl (by omega); rw [cR2] at h; exact h)) (.cons rS .nil) ⟨rfl, bP, trivial⟩ rF) <| .a 1 4 <| .nil _ _) ?_
  refine aw_p 15343 (
    .a 2 4 <| .nil _ _) ?_
  refine aw_fl 30687 ?_
  refine aw_sk ?_
  refine block_normal ?_
  refine then_normal ?_
  refine aw_p1 (
    .a 2 4 <| .nil _ _) ?_
  refine then_normal ?_
  refine al_round ?_
  refine aw_p 239 (
    .a 1 4 <| .nil _ _) ?_
  refine aw_sq 478 479 ?_
  refine aw_tr 956 ?_
  refine aw_sk ?_
  refine then_normal ?_
  refine aw_sq 958 959 ?_
  refine aw_bl 1 1917 ?_
  refine aw_p 3835 (
    .a 3 4 <| .nil _ _) ?_
  refine aw_p 7671 (
    .a 1 4 <| .p (cS (m := 1) (args0 := [sV 0 R3.length]) (pre0 := [(0, (pB R3))]) (v0 := .int .i64 0) #[.tmp 19] #[39] [sV 3 R3.length] [3] [(3, (pB R3))] (.int .i64 0) ((by have h := chkn_own R3 R3.length rfl (by omega); rw [cR3] at h; exact h)) (.cons rS .nil) ⟨rfl, bP, trivial⟩ rF) <| .a 1 4 <| .nil _ _) ?_
  refine aw_p 15343 (
    .a 2 4 <| .nil _ _) ?_
  refine aw_fl 30687 ?_
  refine aw_sk ?_
  refine block_normal ?_
  refine then_normal ?_
  refine aw_p1 (
    .a 2 4 <| .nil _ _) ?_
  refine then_normal ?_
  refine al_round ?_
  refine aw_p 239 (
    .a 1 4 <| .nil _ _) ?_
  refine aw_sq 478 479 ?_
  refine aw_fl 957 ?_
  refine aw_ex 0 ?_
  refine then_exit ?_
  refine then_exit ?_
  refine block_exit ?_
  refine then_normal ?_
  refine aw_sq 30 31 ?_
  refine aw_p 61 (
    .a 3 4 <| .nil _ _) ?_
  refine aw_bl 2 123 ?_
  refine aw_lp 247 ?_
  refine al_round ?_
  refine aw_p 495 (
    .a 1 4 <| .nil _ _) ?_
  refine aw_sq 990 991 ?_
  refine aw_tr 1980 ?_
  refine aw_sk ?_
  refine then_normal ?_
  refine aw_sq 1982 1983 ?_
  refine aw_bl 3 3965 ?_
  refine aw_p 7931 (
    .a 5 4 <| .nil _ _) ?_
  refine aw_p 15863 (
    .a 2 4 <|
    .p (does_val (v' := sV 0 0) (does_slice (t := 25) (x := .tmp 32) (lo := none) (hi := some (.tmp 33)) (k := 0) (off := 0) (n := 3) (c := 0) (z := 1) (l := 0) (h := 0) (m := 0) (b := ⟨[sV 1 R1.length, sV 2 R2.length, sV 3 R3.length], 39, true, 1⟩) (by kernel_rfl) (by kernel_rfl) (by kernel_rfl) (by kernel_rfl) (by kernel_rfl) (by kernel_rfl) (by kernel_rfl) (by kernel_rfl) (by decide) (by decide) (by decide) (by decide)) (by kernel_rfl)) <|
    .a 2 4 <| .nil _ _) ?_
  refine aw_bl 4 31727 ?_
  refine aw_lp 63455 ?_
  refine al_round ?_
  refine aw_p 126911 (
    .a 1 4 <| .nil _ _) ?_
  refine aw_sq 253822 253823 ?_
  refine aw_fl 507645 ?_
  refine aw_ex 4 ?_
  refine then_exit ?_
  refine then_exit ?_
  refine block_exit ?_
  refine block_normal ?_
  refine then_normal ?_
  refine aw_p1 (
    .a 2 4 <| .nil _ _) ?_
  refine then_normal ?_
  refine al_round ?_
  refine aw_p 495 (
    .a 1 4 <| .nil _ _) ?_
  refine aw_sq 990 991 ?_
  refine aw_tr 1980 ?_
  refine aw_sk ?_
  refine then_normal ?_
  refine aw_sq 1982 1983 ?_
  refine aw_bl 3 3965 ?_
  refine aw_p 7931 (
    .a 5 4 <| .nil _ _) ?_
  refine aw_p 15863 (
    .a 2 4 <|
    .p (does_val (v' := sV 0 1) (does_slice (t := 25) (x := .tmp 32) (lo := none) (hi := some (.tmp 33)) (k := 0) (off := 0) (n := 3) (c := 0) (z := 1) (l := 0) (h := 1) (m := 1) (b := ⟨[sV 1 R1.length, sV 2 R2.length, sV 3 R3.length], 39, true, 1⟩) (by kernel_rfl) (by kernel_rfl) (by kernel_rfl) (by kernel_rfl) (by kernel_rfl) (by kernel_rfl) (by kernel_rfl) (by kernel_rfl) (by decide) (by decide) (by decide) (by decide)) (by kernel_rfl)) <|
    .a 2 4 <| .nil _ _) ?_
  refine aw_bl 4 31727 ?_
  refine aw_lp 63455 ?_
  refine al_round ?_
  refine aw_p 126911 (
    .a 1 4 <| .nil _ _) ?_
  refine aw_sq 253822 253823 ?_
  refine aw_tr 507644 ?_
  refine aw_sk ?_
  refine then_normal ?_
  refine aw_sq 507646 507647 ?_
  refine aw_bl 5 1015293 ?_
  refine aw_p 2030587 (
    .a 3 4 <| .nil _ _) ?_
  refine aw_p 4061175 (
    .a 2 4 <| .p (cS #[.tmp 40, .tmp 41] #[39, 39] [sV 2 R2.length, sV 1 R1.length] [2, 1] [(2, (pB R2)), (1, (pB R1))] (.bool true) (fits_ok R2 R1 1 (-1) zR2 fR2 zR1 fR1 F21) (.cons rS (.cons rS .nil)) ⟨rfl, bP, rfl, bP, trivial⟩ rF) <| .a 1 4 <| .nil _ _) ?_
  refine aw_fl 8122351 ?_
  refine aw_sk ?_
  refine block_normal ?_
  refine then_normal ?_
  refine aw_p1 (
    .a 2 4 <| .nil _ _) ?_
  refine then_normal ?_
  refine al_round ?_
  refine aw_p 126911 (
    .a 1 4 <| .nil _ _) ?_
  refine aw_sq 253822 253823 ?_
  refine aw_fl 507645 ?_
  refine aw_ex 4 ?_
  refine then_exit ?_
  refine then_exit ?_
  refine block_exit ?_
  refine block_normal ?_
  refine then_normal ?_
  refine aw_p1 (
    .a 2 4 <| .nil _ _) ?_
  refine then_normal ?_
  refine al_round ?_
  refine aw_p 495 (
    .a 1 4 <| .nil _ _) ?_
  refine aw_sq 990 991 ?_
  refine aw_tr 1980 ?_
  refine aw_sk ?_
  refine then_normal ?_
  refine aw_sq 1982 1983 ?_
  refine aw_bl 3 3965 ?_
  refine aw_p 7931 (
    .a 5 4 <| .nil _ _) ?_
  refine aw_p 15863 (
    .a 2 4 <|
    .p (does_val (v' := sV 0 2) (does_slice (t := 25) (x := .tmp 32) (lo := none) (hi := some (.tmp 33)) (k := 0) (off := 0) (n := 3) (c := 0) (z := 1) (l := 0) (h := 2) (m := 2) (b := ⟨[sV 1 R1.length, sV 2 R2.length, sV 3 R3.length], 39, true, 1⟩) (by kernel_rfl) (by kernel_rfl) (by kernel_rfl) (by kernel_rfl) (by kernel_rfl) (by kernel_rfl) (by kernel_rfl) (by kernel_rfl) (by decide) (by decide) (by decide) (by decide)) (by kernel_rfl)) <|
    .a 2 4 <| .nil _ _) ?_
  refine aw_bl 4 31727 ?_
  refine aw_lp 63455 ?_
  refine al_round ?_
  refine aw_p 126911 (
    .a 1 4 <| .nil _ _) ?_
  refine aw_sq 253822 253823 ?_
  refine aw_tr 507644 ?_
  refine aw_sk ?_
  refine then_normal ?_
  refine aw_sq 507646 507647 ?_
  refine aw_bl 5 1015293 ?_
  refine aw_p 2030587 (
    .a 3 4 <| .nil _ _) ?_
  refine aw_p 4061175 (
    .a 2 4 <| .p (cS #[.tmp 40, .tmp 41] #[39, 39] [sV 3 R3.length, sV 1 R1.length] [3, 1] [(3, (pB R3)), (1, (pB R1))] (.bool true) (fits_ok R3 R1 1 (-1) zR3 fR3 zR1 fR1 F31) (.cons rS (.cons rS .nil)) ⟨rfl, bP, rfl, bP, trivial⟩ rF) <| .a 1 4 <| .nil _ _) ?_
  refine aw_fl 8122351 ?_
  refine aw_sk ?_
  refine block_normal ?_
  refine then_normal ?_
  refine aw_p1 (
    .a 2 4 <| .nil _ _) ?_
  refine then_normal ?_
  refine al_round ?_
  refine aw_p 126911 (
    .a 1 4 <| .nil _ _) ?_
  refine aw_sq 253822 253823 ?_
  refine aw_tr 507644 ?_
  refine aw_sk ?_
  refine then_normal ?_
  refine aw_sq 507646 507647 ?_
  refine aw_bl 5 1015293 ?_
  refine aw_p 2030587 (
    .a 3 4 <| .nil _ _) ?_
  refine aw_p 4061175 (
    .a 2 4 <| .p (cS #[.tmp 40, .tmp 41] #[39, 39] [sV 3 R3.length, sV 2 R2.length] [3, 2] [(3, (pB R3)), (2, (pB R2))] (.bool true) (fits_ok R3 R2 1 (-1) zR3 fR3 zR2 fR2 F32) (.cons rS (.cons rS .nil)) ⟨rfl, bP, rfl, bP, trivial⟩ rF) <| .a 1 4 <| .nil _ _) ?_
  refine aw_fl 8122351 ?_
  refine aw_sk ?_
  refine block_normal ?_
  refine then_normal ?_
  refine aw_p1 (
    .a 2 4 <| .nil _ _) ?_
  refine then_normal ?_
  refine al_round ?_
  refine aw_p 126911 (
    .a 1 4 <| .nil _ _) ?_
  refine aw_sq 253822 253823 ?_
  refine aw_fl 507645 ?_
  refine aw_ex 4 ?_
  refine then_exit ?_
  refine then_exit ?_
  refine block_exit ?_
  refine block_normal ?_
  refine then_normal ?_
  refine aw_p1 (
    .a 2 4 <| .nil _ _) ?_
  refine then_normal ?_
  refine al_round ?_
  refine aw_p 495 (
    .a 1 4 <| .nil _ _) ?_
  refine aw_sq 990 991 ?_
  refine aw_fl 1981 ?_
  refine aw_ex 2 ?_
  refine then_exit ?_
  refine then_exit ?_
  refine block_exit ?_
  refine then_normal ?_
  refine aw_p 63 (
    .a 1 4 <| .nil _ _) ?_
  refine aw_rt ?_
  exact en_ret [.int .i64 0] (by kernel_rfl)
theorem adepth_n3 (R1 R2 R3 : List (Int × Int)) (zR1 : 1 ≤ R1.length ∧ R1.length ≤ 200) (fR1 : Sp.Few 1000 R1) (zR2 : 1 ≤ R2.length ∧ R2.length ≤ 200) (fR2 : Sp.Few 1000 R2) (zR3 : 1 ≤ R3.length ∧ R3.length ≤ 200) (fR3 : Sp.Few 1000 R3) (cR1 : Sp.chkF R1 = 0) (cR2 : Sp.chkF R2 = 0) (cR3 : Sp.chkF R3 = 0) (F21 : Sp.Fit R2 R1 1 (-1)) (F31 : Sp.Fit R3 R1 1 (-1)) (F32 : Sp.Fit R3 R2 1 (-1)) :
    AC Tryz.prog 27 4 ([sV 0 3]) [(0, ⟨[sV 1 R1.length, sV 2 R2.length, sV 3 R3.length], 39, true, 1⟩), (1, (pB R1)), (2, (pB R2)), (3, (pB R3))] (sV 4 3) [(0, ⟨[sV 1 R1.length, sV 2 R2.length, sV 3 R3.length], 39, true, 1⟩), (1, (pB R1)), (2, (pB R2)), (3, (pB R3)), (4, ⟨[.int .i64 0, .int .i64 1, .int .i64 2], 3, true, 1⟩)] := by
  refine ac_in Tryz.func27 (fun w0 W pin => ?_)
  refine aw_p 3 (
    .a 1 4 <| .nil _ _) ?_
  refine aw_sq 6 7 ?_
  refine aw_p 13 (
    .a 1 4 <|
    .p (cS #[.tmp 8] #[25] [sV 0 3] [0, 1, 2, 3] [(0, ⟨[sV 1 R1.length, sV 2 R2.length, sV 3 R3.length], 39, true, 1⟩), (1, (pB R1)), (2, (pB R2)), (3, (pB R3))] (.int .i64 0) (acheck_n3 R1 R2 R3 zR1 fR1 zR2 fR2 zR3 fR3 cR1 cR2 cR3 F21 F31 F32) (.cons rS .nil) ⟨rfl, ⟨rfl, rfl, rfl, (.cons rS (.cons rS (.cons rS .nil)))⟩, rfl, bP, rfl, bP, rfl, bP, trivial⟩ rF) <|
    .a 1 4 <| .nil _ _) ?_
  refine aw_fl 27 ?_
  refine aw_sk ?_
  refine then_normal ?_
  refine aw_p 15 (
    .a 2 4 <| .p (does_mk (kl := .i64) (kc := .i64) (n' := 3) (c' := 3) 4 3 1 8 3 3 (.int .i64 0) [.int .i64 0, .int .i64 0, .int .i64 0] (by kernel_rfl) (by kernel_rfl) (by kernel_rfl) (by kernel_rfl) (by decide) (by decide) (by decide) (by decide) (by decide)) <| .a 1 5 <| .nil _ _) ?_
  refine aw_sq 30 31 ?_
  refine aw_p 61 (
    .a 3 5 <| .nil _ _) ?_
  refine aw_bl 0 123 ?_
  refine aw_lp 247 ?_
  refine al_round ?_
  refine aw_p 495 (
    .a 1 5 <| .nil _ _) ?_
  refine aw_sq 990 991 ?_
  refine aw_tr 1980 ?_
  refine aw_sk ?_
  refine then_normal ?_
  refine aw_sq 1982 1983 ?_
  refine aw_bl 1 3965 ?_
  refine aw_p 7931 (
    .a 5 5 <| .nil _ _) ?_
  refine aw_p 15863 (
    .a 3 5 <| .nil _ _) ?_
  refine aw_bl 2 31727 ?_
  refine aw_lp 63455 ?_
  refine al_round ?_
  refine aw_p 126911 (
    .a 1 5 <| .nil _ _) ?_
  refine aw_sq 253822 253823 ?_
  refine aw_tr 507644 ?_
  refine aw_sk ?_
  refine then_normal ?_
  refine aw_sq 507646 507647 ?_
  refine aw_bl 3 1015293 ?_
  refine aw_p 2030587 (
    .a 5 5 <| .nil _ _) ?_
  refine aw_p 4061175 (
    .a 9 5 <| .nil _ _) ?_
  refine aw_fl 8122351 ?_
  refine aw_sk ?_
  refine block_normal ?_
  refine then_normal ?_
  refine aw_p1 (
    .a 2 5 <| .nil _ _) ?_
  refine then_normal ?_
  refine al_round ?_
  refine aw_p 126911 (
    .a 1 5 <| .nil _ _) ?_
  refine aw_sq 253822 253823 ?_
  refine aw_tr 507644 ?_
  refine aw_sk ?_
  refine then_normal ?_
  refine aw_sq 507646 507647 ?_
  refine aw_bl 3 1015293 ?_
  refine aw_p 2030587 (
    .a 5 5 <| .nil _ _) ?_
  refine aw_p 4061175 (
    .a 6 5 <|
    .p (cS (m := 2) (args0 := [sV 0 R1.length, .int .i64 0, sV 1 R2.length]) (pre0 := [(0, (pB R1)), (1, (pB R2))]) (v0 := .int .i64 (-1)) #[.tmp 32, .const (.int .i64 0), .tmp 33] #[39, 3, 39] [sV 1 R1.length, .int .i64 0, sV 2 R2.length] [1, 2] [(1, (pB R1)), (2, (pB R2))] (.int .i64 (-1)) ((by have h := side_ok R1 R2 zR1 fR1 zR2 fR2 0 (by omega); rw [Sp.side_at F21.2.2 (by omega)] at h; exact h)) (.cons rS (.cons rF (.cons rS .nil))) ⟨rfl, bP, rfl, bP, trivial⟩ rF) <|
    .a 2 5 <| .nil _ _) ?_
  refine aw_fl 8122351 ?_
  refine aw_sk ?_
  refine block_normal ?_
  refine then_normal ?_
  refine aw_p1 (
    .a 2 5 <| .nil _ _) ?_
  refine then_normal ?_
  refine al_round ?_
  refine aw_p 126911 (
    .a 1 5 <| .nil _ _) ?_
  refine aw_sq 253822 253823 ?_
  refine aw_tr 507644 ?_
  refine aw_sk ?_
  refine then_normal ?_
  refine aw_sq 507646 507647 ?_
  refine aw_bl 3 1015293 ?_
  refine aw_p 2030587 (
    .a 5 5 <| .nil _ _) ?_
  refine aw_p 4061175 (
    .a 6 5 <|
    .p (cS (m := 2) (args0 := [sV 0 R1.length, .int .i64 0, sV 1 R3.length]) (pre0 := [(0, (pB R1)), (1, (pB R3))]) (v0 := .int .i64 (-1)) #[.tmp 32, .const (.int .i64 0), .tmp 33] #[39, 3, 39] [sV 1 R1.length, .int .i64 0, sV 3 R3.length] [1, 3] [(1, (pB R1)), (3, (pB R3))] (.int .i64 (-1)) ((by have h := side_ok R1 R3 zR1 fR1 zR3 fR3 0 (by omega); rw [Sp.side_at F31.2.2 (by omega)] at h; exact h)) (.cons rS (.cons rF (.cons rS .nil))) ⟨rfl, bP, rfl, bP, trivial⟩ rF) <|
    .a 2 5 <| .nil _ _) ?_
  refine aw_fl 8122351 ?_
  refine aw_sk ?_
  refine block_normal ?_
  refine then_normal ?_
  refine aw_p1 (
    .a 2 5 <| .nil _ _) ?_
  refine then_normal ?_
  refine al_round ?_
  refine aw_p 126911 (
    .a 1 5 <| .nil _ _) ?_
  refine aw_sq 253822 253823 ?_
  refine aw_fl 507645 ?_
  refine aw_ex 2 ?_
  refine then_exit ?_
  refine then_exit ?_
  refine block_exit ?_
  refine block_normal ?_
  refine then_normal ?_
  refine aw_p1 (
    .a 2 5 <| .nil _ _) ?_
  refine then_normal ?_
  refine al_round ?_
  refine aw_p 495 (
    .a 1 5 <| .nil _ _) ?_
  refine aw_sq 990 991 ?_
  refine aw_tr 1980 ?_
  refine aw_sk ?_
  refine then_normal ?_
  refine aw_sq 1982 1983 ?_
  refine aw_bl 1 3965 ?_
  refine aw_p 7931 (
    .a 5 5 <| .nil _ _) ?_
  refine aw_p 15863 (
    .a 3 5 <| .nil _ _) ?_
  refine aw_bl 2 31727 ?_
  refine aw_lp 63455 ?_
  refine al_round ?_
  refine aw_p 126911 (
    .a 1 5 <| .nil _ _) ?_
  refine aw_sq 253822 253823 ?_
  refine aw_tr 507644 ?_
  refine aw_sk ?_
  refine then_normal ?_
  refine aw_sq 507646 507647 ?_
  refine aw_bl 3 1015293 ?_
  refine aw_p 2030587 (
    .a 5 5 <| .nil _ _) ?_
  refine aw_p 4061175 (
    .a 6 5 <|
    .p (cS (m := 2) (args0 := [sV 0 R2.length, .int .i64 0, sV 1 R1.length]) (pre0 := [(0, (pB R2)), (1, (pB R1))]) (v0 := .int .i64 1) #[.tmp 32, .const (.int .i64 0), .tmp 33] #[39, 3, 39] [sV 2 R2.length, .int .i64 0, sV 1 R1.length] [2, 1] [(2, (pB R2)), (1, (pB R1))] (.int .i64 1) ((by have h := side_ok R2 R1 zR2 fR2 zR1 fR1 0 (by omega); rw [Sp.side_at F21.2.1 (by omega)] at h; exact h)) (.cons rS (.cons rF (.cons rS .nil))) ⟨rfl, bP, rfl, bP, trivial⟩ rF) <|
    .a 2 5 <| .nil _ _) ?_
  refine aw_tr 8122350 ?_
  refine aw_p1 (
    .a 7 5 <| .nil _ _) ?_
  refine block_normal ?_
  refine then_normal ?_
  refine aw_p1 (
    .a 2 5 <| .nil _ _) ?_
  refine then_normal ?_
  refine al_round ?_
  refine aw_p 126911 (
    .a 1 5 <| .nil _ _) ?_
  refine aw_sq 253822 253823 ?_
  refine aw_tr 507644 ?_
  refine aw_sk ?_
  refine then_normal ?_
  refine aw_sq 507646 507647 ?_
  refine aw_bl 3 1015293 ?_
  refine aw_p 2030587 (
    .a 5 5 <| .nil _ _) ?_
  refine aw_p 4061175 (
    .a 9 5 <| .nil _ _) ?_
  refine aw_fl 8122351 ?_
  refine aw_sk ?_
  refine block_normal ?_
  refine then_normal ?_
  refine aw_p1 (
    .a 2 5 <| .nil _ _) ?_
  refine then_normal ?_
  refine al_round ?_
  refine aw_p 126911 (
    .a 1 5 <| .nil _ _) ?_
  refine aw_sq 253822 253823 ?_
  refine aw_tr 507644 ?_
  refine aw_sk ?_
  refine then_normal ?_
  refine aw_sq 507646 507647 ?_
  refine aw_bl 3 1015293 ?_
  refine aw_p 2030587 (
    .a 5 5 <| .nil _ _) ?_
  refine aw_p 4061175 (
    .a 6 5 <|
    .p (cS (m := 2) (args0 := [sV 0 R2.length, .int .i64 0, sV 1 R3.length]) (pre0 := [(0, (pB R2)), (1, (pB R3))]) (v0 := .int .i64 (-1)) #[.tmp 32, .const (.int .i64 0), .tmp 33] #[39, 3, 39] [sV 2 R2.length, .int .i64 0, sV 3 R3.length] [2, 3] [(2, (pB R2)), (3, (pB R3))] (.int .i64 (-1)) ((by have h := side_ok R2 R3 zR2 fR2 zR3 fR3 0 (by omega); rw [Sp.side_at F32.2.2 (by omega)] at h; exact h)) (.cons rS (.cons rF (.cons rS .nil))) ⟨rfl, bP, rfl, bP, trivial⟩ rF) <|
    .a 2 5 <| .nil _ _) ?_
  refine aw_fl 8122351 ?_
  refine aw_sk ?_
  refine block_normal ?_
  refine then_normal ?_
  refine aw_p1 (
    .a 2 5 <| .nil _ _) ?_
  refine then_normal ?_
  refine al_round ?_
  refine aw_p 126911 (
    .a 1 5 <| .nil _ _) ?_
  refine aw_sq 253822 253823 ?_
  refine aw_fl 507645 ?_
  refine aw_ex 2 ?_
  refine then_exit ?_
  refine then_exit ?_
  refine block_exit ?_
  refine block_normal ?_
  refine then_normal ?_
  refine aw_p1 (
    .a 2 5 <| .nil _ _) ?_
  refine then_normal ?_
  refine al_round ?_
  refine aw_p 495 (
    .a 1 5 <| .nil _ _) ?_
  refine aw_sq 990 991 ?_
  refine aw_tr 1980 ?_
  refine aw_sk ?_
  refine then_normal ?_
  refine aw_sq 1982 1983 ?_
  refine aw_bl 1 3965 ?_
  refine aw_p 7931 (
    .a 5 5 <| .nil _ _) ?_
  refine aw_p 15863 (
    .a 3 5 <| .nil _ _) ?_
  refine aw_bl 2 31727 ?_
  refine aw_lp 63455 ?_
  refine al_round ?_
  refine aw_p 126911 (
    .a 1 5 <| .nil _ _) ?_
  refine aw_sq 253822 253823 ?_
  refine aw_tr 507644 ?_
  refine aw_sk ?_
  refine then_normal ?_
  refine aw_sq 507646 507647 ?_
  refine aw_bl 3 1015293 ?_
  refine aw_p 2030587 (
    .a 5 5 <| .nil _ _) ?_
  refine aw_p 4061175 (
    .a 6 5 <|
    .p (cS (m := 2) (args0 := [sV 0 R3.length, .int .i64 0, sV 1 R1.length]) (pre0 := [(0, (pB R3)), (1, (pB R1))]) (v0 := .int .i64 1) #[.tmp 32, .const (.int .i64 0), .tmp 33] #[39, 3, 39] [sV 3 R3.length, .int .i64 0, sV 1 R1.length] [3, 1] [(3, (pB R3)), (1, (pB R1))] (.int .i64 1) ((by have h := side_ok R3 R1 zR3 fR3 zR1 fR1 0 (by omega); rw [Sp.side_at F31.2.1 (by omega)] at h; exact h)) (.cons rS (.cons rF (.cons rS .nil))) ⟨rfl, bP, rfl, bP, trivial⟩ rF) <|
    .a 2 5 <| .nil _ _) ?_
  refine aw_tr 8122350 ?_
  refine aw_p1 (
    .a 7 5 <| .nil _ _) ?_
  refine block_normal ?_
  refine then_normal ?_
  refine aw_p1 (
    .a 2 5 <| .nil _ _) ?_
  refine then_normal ?_
  refine al_round ?_
  refine aw_p 126911 (
    .a 1 5 <| .nil _ _) ?_
  refine aw_sq 253822 253823 ?_
  refine aw_tr 507644 ?_
  refine aw_sk ?_
  refine then_normal ?_
  refine aw_sq 507646 507647 ?_
  refine aw_bl 3 1015293 ?_
  refine aw_p 2030587 (
    .a 5 5 <| .nil _ _) ?_
  refine aw_p 4061175 (
    .a 6 5 <|
    .p (cS (m := 2) (args0 := [sV 0 R3.length, .int .i64 0, sV 1 R2.length]) (pre0 := [(0, (pB R3)), (1, (pB R2))]) (v0 := .int .i64 1) #[.tmp 32, .const (.int .i64 0), .tmp 33] #[39, 3, 39] [sV 3 R3.length, .int .i64 0, sV 2 R2.length] [3, 2] [(3, (pB R3)), (2, (pB R2))] (.int .i64 1) ((by have h := side_ok R3 R2 zR3 fR3 zR2 fR2 0 (by omega); rw [Sp.side_at F32.2.1 (by omega)] at h; exact h)) (.cons rS (.cons rF (.cons rS .nil))) ⟨rfl, bP, rfl, bP, trivial⟩ rF) <|
    .a 2 5 <| .nil _ _) ?_
  refine aw_tr 8122350 ?_
  refine aw_p1 (
    .a 7 5 <| .nil _ _) ?_
  refine block_normal ?_
  refine then_normal ?_
  refine aw_p1 (
    .a 2 5 <| .nil _ _) ?_
  refine then_normal ?_
  refine al_round ?_
  refine aw_p 126911 (
    .a 1 5 <| .nil _ _) ?_
  refine aw_sq 253822 253823 ?_
  refine aw_tr 507644 ?_
  refine aw_sk ?_
  refine then_normal ?_
  refine aw_sq 507646 507647 ?_
  refine aw_bl 3 1015293 ?_
  refine aw_p 2030587 (
    .a 5 5 <| .nil _ _) ?_
  refine aw_p 4061175 (
    .a 9 5 <| .nil _ _) ?_
  refine aw_fl 8122351 ?_
  refine aw_sk ?_
  refine block_normal ?_
  refine then_normal ?_
  refine aw_p1 (
    .a 2 5 <| .nil _ _) ?_
  refine then_normal ?_
  refine al_round ?_
  refine aw_p 126911 (
    .a 1 5 <| .nil _ _) ?_
  refine aw_sq 253822 253823 ?_
  refine aw_fl 507645 ?_
  refine aw_ex 2 ?_
  refine then_exit ?_
  refine then_exit ?_
  refine block_exit ?_
  refine block_normal ?_
  refine then_normal ?_
  refine aw_p1 (
    .a 2 5 <| .nil _ _) ?_
  refine then_normal ?_
  refine al_round ?_
  refine aw_p 495 (
    .a 1 5 <| .nil _ _) ?_
  refine aw_sq 990 991 ?_
  refine aw_fl 1981 ?_
  refine aw_ex 0 ?_
  refine then_exit ?_
  refine then_exit ?_
  refine block_exit ?_
  refine then_normal ?_
  refine aw_p 63 (
    .a 2 5 <| .nil _ _) ?_
  refine aw_rt ?_
  exact en_ret [sV 4 3] (by kernel_rfl)
theorem atwice_n3 (R1 R2 R3 : List (Int × Int)) (zR1 : 1 ≤ R1.length ∧ R1.length ≤ 200) (fR1 : Sp.Few 1000 R1) (zR2 : 1 ≤ R2.length ∧ R2.length ≤ 200) (fR2 : Sp.Few 1000 R2) (zR3 : 1 ≤ R3.length ∧ R3.length ≤ 200) (fR3 : Sp.Few 1000 R3) (cR1 : Sp.chkF R1 = 0) (cR2 : Sp.chkF R2 = 0) (cR3 : Sp.chkF R3 = 0) (F21 : Sp.Fit R2 R1 1 (-1)) (F31 : Sp.Fit R3 R1 1 (-1)) (F32 : Sp.Fit R3 R2 1 (-1)) (a1 a2 a3 : Int) (t1 : Sp.twF R1 1 0 = a1) (b1 : -100000 ≤ a1 ∧ a1 ≤ 100000) (t2 : Sp.twF R2 1 0 = a2) (b2 : -100000 ≤ a2 ∧ a2 ≤ 100000) (t3 : Sp.twF R3 1 0 = a3) (b3 : -100000 ≤ a3 ∧ a3 ≤ 100000) :
    AC Tryz.prog 10 4 ([sV 0 3]) [(0, ⟨[sV 1 R1.length, sV 2 R2.length, sV 3 R3.length], 39, true, 1⟩), (1, (pB R1)), (2, (pB R2)), (3, (pB R3))] (.int .i64 (((0 + (Sp.mx a1 (0 - a1))) + (0 - (Sp.mx a2 (0 - a2)))) + (Sp.mx a3 (0 - a3)))) [(0, ⟨[sV 1 R1.length, sV 2 R2.length, sV 3 R3.length], 39, true, 1⟩), (1, (pB R1)), (2, (pB R2)), (3, (pB R3))] := by
  have m1 : 0 ≤ Sp.mx a1 (0 - a1) ∧ Sp.mx a1 (0 - a1) ≤ 100000 := (by unfold Sp.mx; split <;> omega); have m2 : 0 ≤ Sp.mx a2 (0 - a2) ∧ Sp.mx a2 (0 - a2) ≤ 100000 := (by unfold Sp.mx; split <;> omega); have m3 : 0 ≤ Sp.mx a3 (0 - a3) ∧ Sp.mx a3 (0 - a3) ≤ 100000 := (by unfold Sp.mx; split <;> omega)
  refine ac_in Tryz.func10 (fun w0 W pin => ?_)
  refine aw_p 3 (
    .a 1 4 <| .nil _ _) ?_
  refine aw_p 7 (
    .a 1 4 <| .nil _ _) ?_
  refine aw_sq 14 15 ?_
  refine aw_p 29 (
    .a 1 4 <|
    .p (cF #[.tmp 7] #[25] [sV 0 3] 1 [0, 1, 2, 3, 4] [(0, ⟨[sV 1 R1.length, sV 2 R2.length, sV 3 R3.length], 39, true, 1⟩), (1, (pB R1)), (2, (pB R2)), (3, (pB R3))] [(0, ⟨[sV 1 R1.length, sV 2 R2.length, sV 3 R3.length], 39, true, 1⟩), (1, (pB R1)), (2, (pB R2)), (3, (pB R3)), (4, ⟨[.int .i64 0, .int .i64 1, .int .i64 2], 3, true, 1⟩)] (sV 4 3) (adepth_n3 R1 R2 R3 zR1 fR1 zR2 fR2 zR3 fR3 cR1 cR2 cR3 F21 F31 F32) (.cons rS .nil) ⟨rfl, ⟨rfl, rfl, rfl, (.cons rS (.cons rS (.cons rS .nil)))⟩, rfl, bP, rfl, bP, rfl, bP, trivial⟩ ⟨rfl, ⟨rfl, rfl, rfl, (.cons rS (.cons rS (.cons rS .nil)))⟩, rfl, bP, rfl, bP, rfl, bP, rfl, ⟨rfl, rfl, rfl, (.flats (by kernel_rfl))⟩, trivial⟩ rS) <|
    .a 2 5 <| .nil _ _) ?_
  refine aw_bl 0 59 ?_
  refine aw_lp 119 ?_
  refine al_round ?_
  refine aw_p 239 (
    .a 1 5 <| .nil _ _) ?_
  refine aw_sq 478 479 ?_
  refine aw_tr 956 ?_
  refine aw_sk ?_
  refine then_normal ?_
  refine aw_sq 958 959 ?_
  refine aw_bl 1 1917 ?_
  refine aw_p 3835 (
    .a 5 5 <| .nil _ _) ?_
  refine aw_p 7671 (
    .a 4 5 <| .p (cS (m := 1) (args0 := [sV 0 R1.length]) (pre0 := [(0, (pB R1))]) (v0 := .int .i64 a1) #[.tmp 18] #[39] [sV 1 R1.length] [1] [(1, (pB R1))] (.int .i64 a1) ((by have h := twicen_own R1 R1.length rfl (by omega); rw [t1] at h; exact h)) (.cons rS .nil) ⟨rfl, bP, trivial⟩ rF) <| .a 1 5 <| .nil _ _) ?_
  refine aw_p 15343 (
    .a 2 5 <| .p (does_i (0 - a1) (wrap_i64 (by omega) (by omega)) .i64) <| .a 2 5 <| .nil _ _) ?_
  refine aw_sq 30686 30687 ?_
  refine aw_p 61373 (
    .a 3 5 <| .nil _ _) ?_
  refine aw_fl 122747 ?_
  refine aw_sk ?_
  refine then_normal ?_
  refine aw_p1 (
    .a 2 5 <| .p (does_i (0 + (Sp.mx a1 (0 - a1))) (wrap_i64 (by omega) (by omega)) .i64) <| .a 1 5 <| .nil _ _) ?_
  refine block_normal ?_
  refine then_normal ?_
  refine aw_p1 (
    .a 2 5 <| .nil _ _) ?_
  refine then_normal ?_
  refine al_round ?_
  refine aw_p 239 (
    .a 1 5 <| .nil _ _) ?_
  refine aw_sq 478 479 ?_
  refine aw_tr 956 ?_
  refine aw_sk ?_
  refine then_normal ?_
  refine aw_sq 958 959 ?_
  refine aw_bl 1 1917 ?_
  refine aw_p 3835 (
    .a 5 5 <| .nil _ _) ?_
  refine aw_p 7671 (
    .a 4 5 <| .p (cS (m := 1) (args0 := [sV 0 R2.length]) (pre0 := [(0, (pB R2))]) (v0 := .int .i64 a2) #[.tmp 18] #[39] [sV 2 R2.length] [2] [(2, (pB R2))] (.int .i64 a2) ((by have h := twicen_own R2 R2.length rfl (by omega); rw [t2] at h; exact h)) (.cons rS .nil) ⟨rfl, bP, trivial⟩ rF) <| .a 1 5 <| .nil _ _) ?_
  refine aw_p 15343 (
    .a 2 5 <| .p (does_i (0 - a2) (wrap_i64 (by omega) (by omega)) .i64) <| .a 2 5 <| .nil _ _) ?_
  refine aw_sq 30686 30687 ?_
  refine aw_p 61373 (
    .a 3 5 <| .nil _ _) ?_
  refine aw_tr 122746 ?_
  refine aw_p1 (
    .a 1 5 <| .p (does_i (0 - (Sp.mx a2 (0 - a2))) (wrap_i64 (by omega) (by omega)) .i64) <| .a 1 5 <| .nil _ _) ?_
  refine then_normal ?_
  refine aw_p1 (
    .a 2 5 <| .p (does_i ((0 + (Sp.mx a1 (0 - a1))) + (0 - (Sp.mx a2 (0 - a2)))) (wrap_i64 (by omega) (by omega)) .i64) <| .a 1 5 <| .nil _ _) ?_
  refine block_normal ?_
  refine then_normal ?_
  refine aw_p1 (
    .a 2 5 <| .nil _ _) ?_
  refine then_normal ?_
  refine al_round ?_
  refine aw_p 239 (
    .a 1 5 <| .nil _ _) ?_
  refine aw_sq 478 479 ?_
  refine aw_tr 956 ?_
  refine aw_sk ?_
  refine then_normal ?_
  refine aw_sq 958 959 ?_
  refine aw_bl 1 1917 ?_
  refine aw_p 3835 (
    .a 5 5 <| .nil _ _) ?_
  refine aw_p 7671 (
    .a 4 5 <| .p (cS (m := 1) (args0 := [sV 0 R3.length]) (pre0 := [(0, (pB R3))]) (v0 := .int .i64 a3) #[.tmp 18] #[39] [sV 3 R3.length] [3] [(3, (pB R3))] (.int .i64 a3) ((by have h := twicen_own R3 R3.length rfl (by omega); rw [t3] at h; exact h)) (.cons rS .nil) ⟨rfl, bP, trivial⟩ rF) <| .a 1 5 <| .nil _ _) ?_
  refine aw_p 15343 (
    .a 2 5 <| .p (does_i (0 - a3) (wrap_i64 (by omega) (by omega)) .i64) <| .a 2 5 <| .nil _ _) ?_
  refine aw_sq 30686 30687 ?_
  refine aw_p 61373 (
    .a 3 5 <| .nil _ _) ?_
  refine aw_fl 122747 ?_
  refine aw_sk ?_
  refine then_normal ?_
  refine aw_p1 (
    .a 2 5 <| .p (does_i (((0 + (Sp.mx a1 (0 - a1))) + (0 - (Sp.mx a2 (0 - a2)))) + (Sp.mx a3 (0 - a3))) (wrap_i64 (by omega) (by omega)) .i64) <| .a 1 5 <| .nil _ _) ?_
  refine block_normal ?_
  refine then_normal ?_
  refine aw_p1 (
    .a 2 5 <| .nil _ _) ?_
  refine then_normal ?_
  refine al_round ?_
  refine aw_p 239 (
    .a 1 5 <| .nil _ _) ?_
  refine aw_sq 478 479 ?_
  refine aw_fl 957 ?_
  refine aw_ex 0 ?_
  refine then_exit ?_
  refine then_exit ?_
  refine block_exit ?_
  refine then_normal ?_
  refine aw_p 31 (
    .a 2 5 <| .nil _ _) ?_
  refine aw_rt ?_
  exact en_ret [.int .i64 (((0 + (Sp.mx a1 (0 - a1))) + (0 - (Sp.mx a2 (0 - a2)))) + (Sp.mx a3 (0 - a3)))] (by kernel_rfl)
end Go.Proofs.YtndkhgfecnbmnaaGreat.Am

namespace Go.Proofs.YtndkhgfecnbmnaaGreat.Am
open Go Go.Proofs
set_option maxRecDepth 100000
set_option maxHeartbeats 4000000
set_option linter.unusedVariables false
set_option linter.unusedSimpArgs false
theorem acheck_o3 (R1 R2 R3 R4 : List (Int × Int)) (zR1 : 1 ≤ R1.length ∧ R1.length ≤ 200) (fR1 : Sp.Few 1000 R1) (zR2 : 1 ≤ R2.length ∧ R2.length ≤ 200) (fR2 : Sp.Few 1000 R2) (zR3 : 1 ≤ R3.length ∧ R3.length ≤ 200) (fR3 : Sp.Few 1000 R3) (zR4 : 1 ≤ R4.length ∧ R4.length ≤ 200) (fR4 : Sp.Few 1000 R4) (cR1 : Sp.chkF R1 = 0) (cR2 : Sp.chkF R2 = 0) (cR3 : Sp.chkF R3 = 0) (cR4 : Sp.chkF R4 = 0) (F21 : Sp.Fit R2 R1 1 (-1)) (F31 : Sp.Fit R3 R1 1 (-1)) (F32 : Sp.Fit R3 R2 1 (-1)) (F41 : Sp.Fit R4 R1 (-1) 1) (F42 : Sp.Fit R4 R2 (-1) 1) (F43 : Sp.Fit R4 R3 (-1) 1) :
    AC Tryz.prog 8 5 ([sV 0 4]) [(0, ⟨[sV 1 R1.length, sV 2 R2.length, sV 3 R3.length, sV 4 R4.length], 39, true, 1⟩), (1, (pB R1)), (2, (pB R2)), (3, (pB R3)), (4, (pB R4))] (.int .i64 0) [(0, ⟨[sV 1 R1.length, sV 2 R2.length, sV 3 R3.length, sV 4 R4.length], 39, true, 1⟩), (1, (pB R1)), (2, (pB R2)), (3, (pB R3)), (4, (pB R4))] := by
  refine ac_in Tryz.func8 (fun w0 W pin => ?_)
  refine aw_p 3 (
    .a 1 5 <| .nil _ _) ?_
  refine aw_sq 6 7 ?_
  refine aw_p 13 (
    .a 3 5 <| .nil _ _) ?_
  refine aw_fl 27 ?_
  refine aw_sk ?_
  refine then_normal ?_
  refine aw_sq 14 15 ?_
  refine aw_p 29 (
    .a 3 5 <| .nil _ _) ?_
  refine aw_bl 0 59 ?_
  refine aw_lp 119 ?_
  refine al_round ?_
  refine aw_p 239 (
    .a 1 5 <| .nil _ _) ?_
  refine aw_sq 478 479 ?_
  refine aw_tr 956 ?_
  refine aw_sk ?_
  refine then_normal ?_
  refine aw_sq 958 959 ?_
  refine aw_bl 1 1917 ?_
  refine aw_p 3835 (
    .a 3 5 <| .nil _ _) ?_
  refine aw_p 7671 (
    .a 1 5 <| .p (cS (m := 1) (args0 := [sV 0 R1.length]) (pre0 := [(0, (pB R1))]) (v0 := .int .i64 0) #[.tmp 19] #[39] [sV 1 R1.length] [1] [(1, (pB R1))] (.int .i64 0) ((by have h := chkn_own R1 R1.length rfl (by omega); rw [cR1] at h; exact h)) (.cons rS .nil) ⟨rfl, bP, trivial⟩ rF) <| .a 1 5 <| .nil _ _) ?_
  refine aw_p 15343 (
    .a 2 5 <| .nil _ _) ?_
  refine aw_fl 30687 ?_
  refine aw_sk ?_
  refine block_normal ?_
  refine then_normal ?_
  refine aw_p1 (
    .a 2 5 <| .nil _ _) ?_
  refine then_normal ?_
  refine al_round ?_
  refine aw_p 239 (
    .a 1 5 <| .nil _ _) ?_
  refine aw_sq 478 479 ?_
  refine aw_tr 956 ?_
  refine aw_sk ?_
  refine then_normal ?_
  refine aw_sq 958 959 ?_
  refine aw_bl 1 1917 ?_
  refine aw_p 3835 (
    .a 3 5 <| .nil _ _) ?_
  refine aw_p 7671 (
    .a 1 5 <| .p (cS (m := 1) (args0 := [sV 0 R2.length]) (pre0 := [(0, (pB R2))]) (v0 := .int .i64 0) #[.tmp 19] #[39] [sV 2 R2.length] [2] [(2, (pB R2))] (.int .i64 0) ((by have h := chkn_own R2 R2.length rfl (by omega); rw [cR2] at h; exact h)) (.cons rS .nil) ⟨rfl, bP, trivial⟩ rF) <| .a 1 5 <| .nil _ _) ?_
  refine aw_p 15343 (
    .a 2 5 <| .nil _ _) ?_
  refine aw_fl 30687 ?_
  refine aw_sk ?_
  refine block_normal ?_
  refine then_normal ?_
  refine aw_p1 (
    .a 2 5 <| .nil _ _) ?_
  refine then_normal ?_
  refine al_round ?_
  refine aw_p 239 (
    .a 1 5 <| .nil _ _) ?_
  refine aw_sq 478 479 ?_
  refine aw_tr 956 ?_
  refine aw_sk ?_
  refine then_normal ?_
  refine aw_sq 958 959 ?_
  refine aw_bl 1 1917 ?_
  refine aw_p 3835 (
    .a 3 5 <| .nil _ _) ?_
  refine aw_p 7671 (
    .a 1 5 <| .p (cS (m := 1) (args0 := [sV 0 R3.length]) (pre0 := [(0, (pB R3))]) (v0 := .int .i64 0) #[.tmp 19] #[39] [sV 3 R3.length] [3] [(3, (pB R3))] (.int .i64 0) ((by have h := chkn_own R3 R3.length rfl (by omega); rw [cR3] at h; exact h)) (.cons rS .nil) ⟨rfl, bP, trivial⟩ rF) <| .a 1 5 <| .nil _ _) ?_
  refine aw_p 15343 (
    .a 2 5 <| .nil _ _) ?_
  refine aw_fl 30687 ?_
  refine aw_sk ?_
  refine block_normal ?_
  refine then_normal ?_
  refine aw_p1 (
    .a 2 5 <| .nil _ _) ?_
  refine then_normal ?_
  refine al_round ?_
  refine aw_p 239 (
    .a 1 5 <| .nil _ _) ?_
  refine aw_sq 478 479 ?_
  refine aw_tr 956 ?_
  refine aw_sk ?_
  refine then_normal ?_
  refine aw_sq 958 959 ?_
  refine aw_bl 1 1917 ?_
  refine aw_p 3835 (
    .a 3 5 <| .nil _ _) ?_
  refine aw_p 7671 (
    .a 1 5 <| .p (cS (m := 1) (args0 := [sV 0 R4.length]) (pre0 := [(0, (pB R4))]) (v0 := .int .i64 0) #[.tmp 19] #[39] [sV 4 R4.length] [4] [(4, (pB R4))] (.int .i64 0) ((by have h := chkn_own R4 R4.length rfl (by omega); rw [cR4] at h; exact h)) (.cons rS .nil) ⟨rfl, bP, trivial⟩ rF) <| .a 1 5 <| .nil _ _) ?_
  refine aw_p 15343 (
    .a 2 5 <| .nil _ _) ?_
  refine aw_fl 30687 ?_
  refine aw_sk ?_
  refine block_normal ?_
  refine then_normal ?_
  refine aw_p1 (
    .a 2 5 <| .nil _ _) ?_
  refine then_normal ?_
  refine al_round ?_
  refine aw_p 239 (
    .a 1 5 <| .nil _ _) ?_
  refine aw_sq 478 479 ?_
  refine aw_fl 957 ?_
  refine aw_ex 0 ?_
  refine then_exit ?_
  refine then_exit ?_
  refine block_exit ?_
  refine then_normal ?_
  refine aw_sq 30 31 ?_
  refine aw_p 61 (
    .a 3 5 <| .nil _ _) ?_
  refine aw_bl 2 123 ?_
  refine aw_lp 247 ?_
  refine al_round ?_
  refine aw_p 495 (
    .a 1 5 <| .nil _ _) ?_
  refine aw_sq 990 991 ?_
  refine aw_tr 1980 ?_
  refine aw_sk ?_
  refine then_normal ?_
  refine aw_sq 1982 1983 ?_
  refine aw_bl 3 3965 ?_
  refine aw_p 7931 (
    .a 5 5 <| .nil _ _) ?_
  refine aw_p 15863 (
    .a 2 5 <|
    .p (does_val (v' := sV 0 0) (does_slice (t := 25) (x := .tmp 32) (lo := none) (hi := some (.tmp 33)) (k := 0) (off := 0) (n := 4) (c := 0) (z := 1) (l := 0) (h := 0) (m := 0) (b := ⟨[sV 1 R1.length, sV 2 R2.length, sV 3 R3.length, sV 4 R4.length], 39, true, 1⟩) (by kernel_rfl) (by kernel_rfl) (by kernel_rfl) (by kernel_rfl) (by kernel_rfl) (by kernel_rfl) (by kernel_rfl) (by kernel_rfl) (by decide) (by decide) (by decide) (by decide)) (by kernel_rfl)) <|
    .a 2 5 <| .nil _ _) ?_
  refine aw_bl 4 31727 ?_
  refine aw_lp 63455 ?_
  refine al_round ?_
  refine aw_p 126911 (
    .a 1 5 <| .nil _ _) ?_
  refine aw_sq 253822 253823 ?_
  refine aw_fl 507645 ?_
  refine aw_ex 4 ?_
  refine then_exit ?_
  refine then_exit ?_
  refine block_exit ?_
  refine block_normal ?_
  refine then_normal ?_
  refine aw_p1 (
    .a 2 5 <| .nil _ _) ?_
  refine then_normal ?_
  refine al_round ?_
  refine aw_p 495 (
    .a 1 5 <| .nil _ _) ?_
  refine aw_sq 990 991 ?_
  refine aw_tr 1980 ?_
  refine aw_sk ?_
  refine then_normal ?_
  refine aw_sq 1982 1983 ?_
  refine aw_bl 3 3965 ?_
  refine aw_p 7931 (
    .a 5 5 <| .nil _ _) ?_
  refine aw_p 15863 (
    .a 2 5 <|
    .p (does_val (v' := sV 0 1) (does_slice (t := 25) (x := .tmp 32) (lo := none) (hi := some (.tmp 33)) (k := 0) (off := 0) (n := 4) (c := 0) (z := 1) (l := 0) (h := 1) (m := 1) (b := ⟨[sV 1 R1.length, sV 2 R2.length, sV 3 R3.length, sV 4 R4.length], 39, true, 1⟩) (by kernel_rfl) (by kernel_rfl) (by kernel_rfl) (by kernel_rfl) (by kernel_rfl) (by kernel_rfl) (by kernel_rfl) (by kernel_rfl) (by decide) (by decide) (by decide) (by decide)) (by kernel_rfl)) <|
    .a 2 5 <| .nil _ _) ?_
  refine aw_bl 4 31727 ?_
  refine aw_lp 63455 ?_
  refine al_round ?_
  refine aw_p 126911 (
    .a 1 5 <| .nil _ _) ?_
  refine aw_sq 253822 253823 ?_
  refine aw_tr 507644 ?_
  refine aw_sk ?_
  refine then_normal ?_
  refine aw_sq 507646 507647 ?_
  refine aw_bl 5 1015293 ?_
  refine aw_p 2030587 (
    .a 3 5 <| .nil _ _) ?_
  refine aw_p 4061175 (
    .a 2 5 <| .p (cS #[.tmp 40, .tmp 41] #[39, 39] [sV 2 R2.length, sV 1 R1.length] [2, 1] [(2, (pB R2)), (1, (pB R1))] (.bool true) (fits_ok R2 R1 1 (-1) zR2 fR2 zR1 fR1 F21) (.cons rS (.cons rS .nil)) ⟨rfl, bP, rfl, bP, trivial⟩ rF) <| .a 1 5 <| .nil _ _) ?_
  refine aw_fl 8122351 ?_
  refine aw_sk ?_
  refine block_normal ?_
  refine then_normal ?_
  refine aw_p1 (
    .a 2 5 <| .nil _ _) ?_
  refine then_normal ?_
  refine al_round ?_
  refine aw_p 126911 (
    .a 1 5 <| .nil _ _) ?_
  refine aw_sq 253822 253823 ?_
  refine aw_fl 507645 ?_
  refine aw_ex 4 ?_
  refine then_exit ?_
  refine then_exit ?_
  refine block_exit ?_
  refine block_normal ?_
  refine then_normal ?_
  refine aw_p1 (
    .a 2 5 <| .nil _ _) ?_
  refine then_normal ?_
  refine al_round ?_
  refine aw_p 495 (
    .a 1 5 <| .nil _ _) ?_
  refine aw_sq 990 991 ?_
  refine aw_tr 1980 ?_
  refine aw_sk ?_
  refine then_normal ?_
  refine aw_sq 1982 1983 ?_
  refine aw_bl 3 3965 ?_
  refine aw_p 7931 (
    .a 5 5 <| .nil _ _) ?_
  refine aw_p 15863 (
    .a 2 5 <|
    .p (does_val (v' := sV 0 2) (does_slice (t := 25) (x := .tmp 32) (lo := none) (hi := some (.tmp 33)) (k := 0) (off := 0) (n := 4) (c := 0) (z := 1) (l := 0) (h := 2) (m := 2) (b := ⟨[sV 1 R1.length, sV 2 R2.length, sV 3 R3.length, sV 4 R4.length], 39, true, 1⟩) (by kernel_rfl) (by kernel_rfl) (by kernel_rfl) (by kernel_rfl) (by kernel_rfl) (by kernel_rfl) (by kernel_rfl) (by kernel_rfl) (by decide) (by decide) (by decide) (by decide)) (by kernel_rfl)) <|
    .a 2 5 <| .nil _ _) ?_
  refine aw_bl 4 31727 ?_
  refine aw_lp 63455 ?_
  refine al_round ?_
  refine aw_p 126911 (
    .a 1 5 <| .nil _ _) ?_
  refine aw_sq 253822 253823 ?_
  refine aw_tr 507644 ?_
  refine aw_sk ?_
  refine then_normal ?_
  refine aw_sq 507646 507647 ?_
  refine aw_bl 5 1015293 ?_
  refine aw_p 2030587 (
    .a 3 5 <| .nil _ _) ?_
  refine aw_p 4061175 (
    .a 2 5 <| .p (cS #[.tmp 40, .tmp 41] #[39, 39] [sV 3 R3.length, sV 1 R1.length] [3, 1] [(3, (pB R3)), (1, (pB R1))] (.bool true) (fits_ok R3 R1 1 (-1) zR3 fR3 zR1 fR1 F31) (.cons rS (.cons rS .nil)) ⟨rfl, bP, rfl, bP, trivial⟩ rF) <| .a 1 5 <| .nil _ _) ?_
  refine aw_fl 8122351 ?_
  refine aw_sk ?_
  refine block_normal ?_
  refine then_normal ?_
  refine aw_p1 (
    .a 2 5 <| .nil _ _) ?_
  refine then_normal ?_
  refine al_round ?_
  refine aw_p 126911 (
    .a 1 5 <| .nil _ _) ?_
  refine aw_sq 253822 253823 ?_
  refine aw_tr 507644 ?_
  refine aw_sk ?_
  refine then_normal ?_
  refine aw_sq 507646 507647 ?_
  refine aw_bl 5 1015293 ?_
  refine aw_p 2030587 (
    .a 3 5 <| .nil _ _) ?_
  refine aw_p 4061175 (
    .a 2 5 <| .p (cS #[.tmp 40, .tmp 41] #[39, 39] [sV 3 R3.length, sV 2 R2.length] [3, 2] [(3, (pB R3)), (2, (pB R2))] (.bool true) (fits_ok R3 R2 1 (-1) zR3 fR3 zR2 fR2 F32) (.cons rS (.cons rS .nil)) ⟨rfl, bP, rfl, bP, trivial⟩ rF) <| .a 1 5 <| .nil _ _) ?_
  refine aw_fl 8122351 ?_
  refine aw_sk ?_
  refine block_normal ?_
  refine then_normal ?_
  refine aw_p1 (
    .a 2 5 <| .nil _ _) ?_
  refine then_normal ?_
  refine al_round ?_
  refine aw_p 126911 (
    .a 1 5 <| .nil _ _) ?_
  refine aw_sq 253822 253823 ?_
  refine aw_fl 507645 ?_
  refine aw_ex 4 ?_
  refine then_exit ?_
  refine then_exit ?_
  refine block_exit ?_
  refine block_normal ?_
  refine then_normal ?_
  refine aw_p1 (
    .a 2 5 <| .nil _ _) ?_
  refine then_normal ?_
  refine al_round ?_
  refine aw_p 495 (
    .a 1 5 <| .nil _ _) ?_
  refine aw_sq 990 991 ?_
  refine aw_tr 1980 ?_
  refine aw_sk ?_
  refine then_normal ?_
  refine aw_sq 1982 1983 ?_
  refine aw_bl 3 3965 ?_
  refine aw_p 7931 (
    .a 5 5 <| .nil _ _) ?_
  refine aw_p 15863 (
    .a 2 5 <|
    .p (does_val (v' := sV 0 3) (does_slice (t := 25) (x := .tmp 32) (lo := none) (hi := some (.tmp 33)) (k := 0) (off := 0) (n := 4) (c := 0) (z := 1) (l := 0) (h := 3) (m := 3) (b := ⟨[sV 1 R1.length, sV 2 R2.length, sV 3 R3.length, sV 4 R4.length], 39, true, 1⟩) (by kernel_rfl) (by kernel_rfl) (by kernel_rfl) (by kernel_rfl) (by kernel_rfl) (by kernel_rfl) (by kernel_rfl) (by kernel_rfl) (by decide) (by decide) (by decide) (by decide)) (by kernel_rfl)) <|
    .a 2 5 <| .nil _ _) ?_
  refine aw_bl 4 31727 ?_
  refine aw_lp 63455 ?_
  refine al_round ?_
  refine aw_p 126911 (
    .a 1 5 <| .nil _ _) ?_
  refine aw_sq 253822 253823 ?_
  refine aw_tr 507644 ?_
  refine aw_sk ?_
  refine then_normal ?_
  refine aw_sq 507646 507647 ?_
  refine aw_bl 5 1015293 ?_
  refine aw_p 2030587 (
    .a 3 5 <| .nil _ _) ?_
  refine aw_p 4061175 (
    .a 2 5 <| .p (cS #[.tmp 40, .tmp 41] #[39, 39] [sV 4 R4.length, sV 1 R1.length] [4, 1] [(4, (pB R4)), (1, (pB R1))] (.bool true) (fits_ok R4 R1 (-1) 1 zR4 fR4 zR1 fR1 F41) (.cons rS (.cons rS .nil)) ⟨rfl, bP, rfl, bP, trivial⟩ rF) <| .a 1 5 <| .nil _ _) ?_
  refine aw_fl 8122351 ?_
  refine aw_sk ?_
  refine block_normal ?_
  refine then_normal ?_
  refine aw_p1 (
    .a 2 5 <| .nil _ _) ?_
  refine then_normal ?_
  refine al_round ?_
  refine aw_p 126911 (
    .a 1 5 <| .nil _ _) ?_
  refine aw_sq 253822 253823 ?_
  refine aw_tr 507644 ?_
  refine aw_sk ?_
  refine then_normal ?_
  refine aw_sq 507646 507647 ?_
  refine aw_bl 5 1015293 ?_
  refine aw_p 2030587 (
    .a 3 5 <| .nil _ _) ?_
  refine aw_p 4061175 (
    .a 2 5 <| .p (cS #[.tmp 40, .tmp 41] #[39, 39] [sV 4 R4.length, sV 2 R2.length] [4, 2] [(4, (pB R4)), (2, (pB R2))] (.bool true) (fits_ok R4 R2 (-1) 1 zR4 fR4 zR2 fR2 F42) (.cons rS (.cons rS .nil)) ⟨rfl, bP, rfl, bP, trivial⟩ rF) <| .a 1 5 <| .nil _ _) ?_
  refine aw_fl 8122351 ?_
  refine aw_sk ?_
  refine block_normal ?_
  refine then_normal ?_
  refine aw_p1 (
    .a 2 5 <| .nil _ _) ?_
  refine then_normal ?_
  refine al_round ?_
  refine aw_p 126911 (
    .a 1 5 <| .nil _ _) ?_
  refine aw_sq 253822 253823 ?_
  refine aw_tr 507644 ?_
  refine aw_sk ?_
  refine then_normal ?_
  refine aw_sq 507646 507647 ?_
  refine aw_bl 5 1015293 ?_
  refine aw_p 2030587 (
    .a 3 5 <| .nil _ _) ?_
  refine aw_p 4061175 (
    .a 2 5 <| .p (cS #[.tmp 40, .tmp 41] #[39, 39] [sV 4 R4.length, sV 3 R3.length] [4, 3] [(4, (pB R4)), (3, (pB R3))] (.bool true) (fits_ok R4 R3 (-1) 1 zR4 fR4 zR3 fR3 F43) (.cons rS (.cons rS .nil)) ⟨rfl, bP, rfl, bP, trivial⟩ rF) <| .a 1 5 <| .nil _ _) ?_
  refine aw_fl 8122351 ?_
  refine aw_sk ?_
  refine block_normal ?_
  refine then_normal ?_
  refine aw_p1 (
    .a 2 5 <| .nil _ _) ?_
  refine then_normal ?_
  refine al_round ?_
  refine aw_p 126911 (
    .a 1 5 <| .nil _ _) ?_
  refine aw_sq 253822 253823 ?_
  refine aw_fl 507645 ?_
  refine aw_ex 4 ?_
  refine then_exit ?_
  refine then_exit ?_
  refine block_exit ?_
  refine block_normal ?_
  refine then_normal ?_
  refine aw_p1 (
    .a 2 5 <| .nil _ _) ?_
  refine then_normal ?_
  refine al_round ?_
  refine aw_p 495 (
    .a 1 5 <| .nil _ _) ?_
  refine aw_sq 990 991 ?_
  refine aw_fl 1981 ?_
  refine aw_ex 2 ?_
  refine then_exit ?_
  refine then_exit ?_
  refine block_exit ?_
  refine then_normal ?_
  refine aw_p 63 (
    .a 1 5 <| .nil _ _) ?_
  refine aw_rt ?_
  exact en_ret [.int .i64 0] (by kernel_rfl)
theorem adepth_o3 (R1 R2 R3 R4 : List (Int × Int)) (zR1 : 1 ≤ R1.length ∧ R1.length ≤ 200) (fR1 : Sp.Few 1000 R1) (zR2 : 1 ≤ R2.length ∧ R2.length ≤ 200) (fR2 : Sp.Few 1000 R2) (zR3 : 1 ≤ R3.length ∧ R3.length ≤ 200) (fR3 : Sp.Few 1000 R3) (zR4 : 1 ≤ R4.length ∧ R4.length ≤ 200) (fR4 : Sp.Few 1000 R4) (cR1 : Sp.chkF R1 = 0) (cR2 : Sp.chkF R2 = 0) (cR3 : Sp.chkF R3 = 0) (cR4 : Sp.chkF R4 = 0) (F21 : Sp.Fit R2 R1 1 (-1)) (F31 : Sp.Fit R3 R1 1 (-1)) (F32 : Sp.Fit R3 R2 1 (-1)) (F41 : Sp.Fit R4 R1 (-1) 1) (F42 : Sp.Fit R4 R2 (-1) 1) (F43 : Sp.Fit R4 R3 (-1) 1) :
    AC Tryz.prog 27 5 ([sV 0 4]) [(0, ⟨[sV 1 R1.length, sV 2 R2.length, sV 3 R3.length, sV 4 R4.length], 39, true, 1⟩), (1, (pB R1)), (2, (pB R2)), (3, (pB R3)), (4, (pB R4))] (sV 5 4) [(0, ⟨[sV 1 R1.length, sV 2 R2.length, sV 3 R3.length, sV 4 R4.length], 39, true, 1⟩), (1, (pB R1)), (2, (pB R2)), (3, (pB R3)), (4, (pB R4)), (5, ⟨[.int .i64 1, .int .i64 2, .int .i64 3, .int .i64 0], 3, true, 1⟩)] := by
  refine ac_in Tryz.func27 (fun w0 W pin => ?_)
  refine aw_p 3 (
    .a 1 5 <| .nil _ _) ?_
  refine aw_sq 6 7 ?_
  refine aw_p 13 (
    .a 1 5 <|
    .p (cS #[.tmp 8] #[25] [sV 0 4] [0, 1, 2, 3, 4] [(0, ⟨[sV 1 R1.length, sV 2 R2.length, sV 3 R3.length, sV 4 R4.length], 39, true, 1⟩), (1, (pB R1)), (2, (pB R2)), (3, (pB R3)), (4, (pB R4))] (.int .i64 0) (acheck_o3 R1 R2 R3 R4 zR1 fR1 zR2 fR2 zR3 fR3 zR4 fR4 cR1 cR2 cR3 cR4 F21 F31 F32 F41 F42 F43) (.cons rS .nil) ⟨rfl, ⟨rfl, rfl, rfl, (.cons rS (.cons rS (.cons rS (.cons rS .nil))))⟩, rfl, bP, rfl, bP, rfl, bP, rfl, bP, trivial⟩ rF) <|
    .a 1 5 <| .nil _ _) ?_
  refine aw_fl 27 ?_
  refine aw_sk ?_
  refine then_normal ?_
  refine aw_p 15 (
    .a 2 5 <| .p (does_mk (kl := .i64) (kc := .i64) (n' := 4) (c' := 4) 5 3 1 8 4 4 (.int .i64 0) [.int .i64 0, .int .i64 0, .int .i64 0, .int .i64 0] (by kernel_rfl) (by kernel_rfl) (by kernel_rfl) (by kernel_rfl) (by decide) (by decide) (by decide) (by decide) (by decide)) <| .a 1 6 <| .nil _ _) ?_
  refine aw_sq 30 31 ?_
  refine aw_p 61 (
    .a 3 6 <| .nil _ _) ?_
  refine aw_bl 0 123 ?_
  refine aw_lp 247 ?_
  refine al_round ?_
  refine aw_p 495 (
    .a 1 6 <| .nil _ _) ?_
  refine aw_sq 990 991 ?_
  refine aw_tr 1980 ?_
  refine aw_sk ?_
  refine then_normal ?_
  refine aw_sq 1982 1983 ?_
  refine aw_bl 1 3965 ?_
  refine aw_p 7931 (
    .a 5 6 <| .nil _ _) ?_
  refine aw_p 15863 (
    .a 3 6 <| .nil _ _) ?_
  refine aw_bl 2 31727 ?_
  refine aw_lp 63455 ?_
  refine al_round ?_
  refine aw_p 126911 (
    .a 1 6 <| .nil _ _) ?_
  refine aw_sq 253822 253823 ?_
  refine aw_tr 507644 ?_
  refine aw_sk ?_
  refine then_normal ?_
  refine aw_sq 507646 507647 ?_
  refine aw_bl 3 1015293 ?_
  refine aw_p 2030587 (
    .a 5 6 <| .nil _ _) ?_
  refine aw_p 4061175 (
    .a 9 6 <| .nil _ _) ?_
  refine aw_fl 8122351 ?_
  refine aw_sk ?_
  refine block_normal ?_
  refine then_normal ?_
  refine aw_p1 (
    .a 2 6 <| .nil _ _) ?_
  refine then_normal ?_
  refine al_round ?_
  refine aw_p 126911 (
    .a 1 6 <| .nil _ _) ?_
  refine aw_sq 253822 253823 ?_
  refine aw_tr 507644 ?_
  refine aw_sk ?_
  refine then_normal ?_
  refine aw_sq 507646 507647 ?_
  refine aw_bl 3 1015293 ?_
  refine aw_p 2030587 (
    .a 5 6 <| .nil _ _) ?_
  refine aw_p 4061175 (
    .a 6 6 <|
    .p (cS (m := 2) (args0 := [sV 0 R1.length, .int .i64 0, sV 1 R2.length]) (pre0 := [(0, (pB R1)), (1, (pB R2))]) (v0 := .int .i64 (-1)) #[.tmp 32, .const (.int .i64 0), .tmp 33] #[39, 3, 39] [sV 1 R1.length, .int .i64 0, sV 2 R2.length] [1, 2] [(1, (pB R1)), (2, (pB R2))] (.int .i64 (-1)) ((by have h := side_ok R1 R2 zR1 fR1 zR2 fR2 0 (by omega); rw [Sp.side_at F21.2.2 (by omega)] at h; exact h)) (.cons rS (.cons rF (.cons rS .nil))) ⟨rfl, bP, rfl, bP, trivial⟩ rF) <|
    .a 2 6 <| .nil _ _) ?_
  refine aw_fl 8122351 ?_
  refine aw_sk ?_
  refine block_normal ?_
  refine then_normal ?_
  refine aw_p1 (
    .a 2 6 <| .nil _ _) ?_
  refine then_normal ?_
  refine al_round ?_
  refine aw_p 126911 (
    .a 1 6 <| .nil _ _) ?_
  refine aw_sq 253822 253823 ?_
  refine aw_tr 507644 ?_
  refine aw_sk ?_
  refine then_normal ?_
  refine aw_sq 507646 507647 ?_
  refine aw_bl 3 1015293 ?_
  refine aw_p 2030587 (
    .a 5 6 <| .nil _ _) ?_
  refine aw_p 4061175 (
    .a 6 6 <|
    .p (cS (m := 2) (args0 := [sV 0 R1.length, .int .i64 0, sV 1 R3.length]) (pre0 := [(0, (pB R1)), (1, (pB R3))]) (v0 := .int .i64 (-1)) #[.tmp 32, .const (.int .i64 0), .tmp 33] #[39, 3, 39] [sV 1 R1.length, .int .i64 0, sV 3 R3.length] [1, 3] [(1, (pB R1)), (3, (pB R3))] (.int .i64 (-1)) ((by have h := side_ok R1 R3 zR1 fR1 zR3 fR3 0 (by omega); rw [Sp.side_at F31.2.2 (by omega)] at h; exact h)) (.cons rS (.cons rF (.cons rS .nil))) ⟨rfl, bP, rfl, bP, trivial⟩ rF) <|
    .a 2 6 <| .nil _ _) ?_
  refine aw_fl 8122351 ?_
  refine aw_sk ?_
  refine block_normal ?_
  refine then_normal ?_
  refine aw_p1 (
    .a 2 6 <| .nil _ _) ?_
  refine then_normal ?_
  refine al_round ?_
  refine aw_p 126911 (
    .a 1 6 <| .nil _ _) ?_
  refine aw_sq 253822 253823 ?_
  refine aw_tr 507644 ?_
  refine aw_sk ?_
  refine then_normal ?_
  refine aw_sq 507646 507647 ?_
  refine aw_bl 3 1015293 ?_
  refine aw_p 2030587 (
    .a 5 6 <| .nil _ _) ?_
  refine aw_p 4061175 (
    .a 6 6 <|
    .p (cS (m := 2) (args0 := [sV 0 R1.length, .int .i64 0, sV 1 R4.length]) (pre0 := [(0, (pB R1)), (1, (pB R4))]) (v0 := .int .i64 1) #[.tmp 32, .const (.int .i64 0), .tmp 33] #[39, 3, 39] [sV 1 R1.length, .int .i64 0, sV 4 R4.length] [1, 4] [(1, (pB R1)), (4, (pB R4))] (.int .i64 1) ((by have h := side_ok R1 R4 zR1 fR1 zR4 fR4 0 (by omega); rw [Sp.side_at F41.2.2 (by omega)] at h; exact h)) (.cons rS (.cons rF (.cons rS .nil))) ⟨rfl, bP, rfl, bP, trivial⟩ rF) <|
    .a 2 6 <| .nil _ _) ?_
  refine aw_tr 8122350 ?_
  refine aw_p1 (
    .a 7 6 <| .nil _ _) ?_
  refine block_normal ?_
  refine then_normal ?_
  refine aw_p1 (
    .a 2 6 <| .nil _ _) ?_
  refine then_normal ?_
  refine al_round ?_
  refine aw_p 126911 (
    .a 1 6 <| .nil _ _) ?_
  refine aw_sq 253822 253823 ?_
  refine aw_fl 507645 ?_
  refine aw_ex 2 ?_
  refine then_exit ?_
  refine then_exit ?_
  refine block_exit ?_
  refine block_normal ?_
  refine then_normal ?_
  refine aw_p1 (
    .a 2 6 <| .nil _ _) ?_
  refine then_normal ?_
  refine al_round ?_
  refine aw_p 495 (
    .a 1 6 <| .nil _ _) ?_
  refine aw_sq 990 991 ?_
  refine aw_tr 1980 ?_
  refine aw_sk ?_
  refine then_normal ?_
  refine aw_sq 1982 1983 ?_
  refine aw_bl 1 3965 ?_
  refine aw_p 7931 (
    .a 5 6 <| .nil _ _) ?_
  refine aw_p 15863 (
    .a 3 6 <| .nil _ _) ?_
  refine aw_bl 2 31727 ?_
  refine aw_lp 63455 ?_
  refine al_round ?_
  refine aw_p 126911 (
    .a 1 6 <| .nil _ _) ?_
  refine aw_sq 253822 253823 ?_
  refine aw_tr 507644 ?_
  refine aw_sk ?_
  refine then_normal ?_
  refine aw_sq 507646 507647 ?_
  refine aw_bl 3 1015293 ?_
  refine aw_p 2030587 (
    .a 5 6 <| .nil _ _) ?_
  refine aw_p 4061175 (
    .a 6 6 <|
    .p (cS (m := 2) (args0 := [sV 0 R2.length, .int .i64 0, sV 1 R1.length]) (pre0 := [(0, (pB R2)), (1, (pB R1))]) (v0 := .int .i64 1) #[.tmp 32, .const (.int .i64 0), .tmp 33] #[39, 3, 39] [sV 2 R2.length, .int .i64 0, sV 1 R1.length] [2, 1] [(2, (pB R2)), (1, (pB R1))] (.int .i64 1) ((by have h := side_ok R2 R1 zR2 fR2 zR1 fR1 0 (by omega); rw [Sp.side_at F21.2.1 (by omega)] at h; exact h)) (.cons rS (.cons rF (.cons rS .nil))) ⟨rfl, bP, rfl, bP, trivial⟩ rF) <|
    .a 2 6 <| .nil _ _) ?_
  refine aw_tr 8122350 ?_
  refine aw_p1 (
    .a 7 6 <| .nil _ _) ?_
  refine block_normal ?_
  refine then_normal ?_
  refine aw_p1 (
    .a 2 6 <| .nil _ _) ?_
  refine then_normal ?_
  refine al_round ?_
  refine aw_p 126911 (
    .a 1 6 <| .nil _ _) ?_
  refine aw_sq 253822 253823 ?_
  refine aw_tr 507644 ?_
  refine aw_sk ?_
  refine then_normal ?_
  refine aw_sq 507646 507647 ?_
  refine aw_bl 3 1015293 ?_
  refine aw_p 2030587 (
    .a 5 6 <| .nil _ _) ?_
  refine aw_p 4061175 (
    .a 9 6 <| .nil _ _) ?_
  refine aw_fl 8122351 ?_
  refine aw_sk ?_
  refine block_normal ?_
  refine then_normal ?_
  refine aw_p1 (
    .a 2 6 <| .nil _ _) ?_
  refine then_normal ?_
  refine al_round ?_
  refine aw_p 126911 (
    .a 1 6 <| .nil _ _) ?_
  refine aw_sq 253822 253823 ?_
  refine aw_tr 507644 ?_
  refine aw_sk ?_
  refine then_normal ?_
  refine aw_sq 507646 507647 ?_
  refine aw_bl 3 1015293 ?_
  refine aw_p 2030587 (
    .a 5 6 <| .nil _ _) ?_
  refine aw_p 4061175 (
    .a 6 6 <|
    .p (cS (m := 2) (args0 := [sV 0 R2.length, .int .i64 0, sV 1 R3.length]) (pre0 := [(0, (pB R2)), (1, (pB R3))]) (v0 := .int .i64 (-1)) #[.tmp 32, .const (.int .i64 0), .tmp 33] #[39, 3, 39] [sV 2 R2.length, .int .i64 0, sV 3 R3.length] [2, 3] [(2, (pB R2)), (3, (pB R3))] (.int .i64 (-1)) ((by have h := side_ok R2 R3 zR2 fR2 zR3 fR3 0 (by omega); rw [Sp.side_at F32.2.2 (by omega)] at h; exact h)) (.cons rS (.cons rF (.cons rS .nil))) ⟨rfl, bP, rfl, bP, trivial⟩ rF) <|
    .a 2 6 <| .nil _ _) ?_
  refine aw_fl 8122351 ?_
  refine aw_sk ?_
  refine block_normal ?_
  refine then_normal ?_
  refine aw_p1 (
    .a 2 6 <| .nil _ _) ?_
  refine then_normal ?_
  refine al_round ?_
  refine aw_p 126911 (
    .a 1 6 <| .nil _ _) ?_
  refine aw_sq 253822 253823 ?_
  refine aw_tr 507644 ?_
  refine aw_sk ?_
  refine then_normal ?_
  refine aw_sq 507646 507647 ?_
  refine aw_bl 3 1015293 ?_
  refine aw_p 2030587 (
    .a 5 6 <| .nil _ _) ?_
  refine aw_p 4061175 (
    .a 6 6 <|
    .p (cS (m := 2) (args0 := [sV 0 R2.length, .int .i64 0, sV 1 R4.length]) (pre0 := [(0, (pB R2)), (1, (pB R4))]) (v0 := .int .i64 1) #[.tmp 32, .const (.int .i64 0), .tmp 33] #[39, 3, 39] [sV 2 R2.length, .int .i64 0, sV 4 R4.length] [2, 4] [(2, (pB R2)), (4, (pB R4))] (.int .i64 1) ((by have h := side_ok R2 R4 zR2 fR2 zR4 fR4 0 (by omega); rw [Sp.side_at F42.2.2 (by omega)] at h; exact h)) (.cons rS (.cons rF (.cons rS .nil))) ⟨rfl, bP, rfl, bP, trivial⟩ rF) <|
    .a 2 6 <| .nil _ _) ?_
  refine aw_tr 8122350 ?_
  refine aw_p1 (
    .a 7 6 <| .nil _ _) ?_
  refine block_normal ?_
  refine then_normal ?_
  refine aw_p1 (
    .a 2 6 <| .nil _ _) ?_
  refine then_normal ?_
  refine al_round ?_
  refine aw_p 126911 (
    .a 1 6 <| .nil _ _) ?_
  refine aw_sq 253822 253823 ?_
  refine aw_fl 507645 ?_
  refine aw_ex 2 ?_
  refine then_exit ?_
  refine then_exit ?_
  refine block_exit ?_
  refine block_normal ?_
  refine then_normal ?_
  refine aw_p1 (
    .a 2 6 <| .nil _ _) ?_
  refine then_normal ?_
  refine al_round ?_
  refine aw_p 495 (
    .a 1 6 <| .nil _ _) ?_
  refine aw_sq 990 991 ?_
  refine aw_tr 1980 ?_
  refine aw_sk ?_
  refine then_normal ?_
  refine aw_sq 1982 1983 ?_
  refine aw_bl 1 3965 ?_
  refine aw_p 7931 (
    .a 5 6 <| .nil _ _) ?_
  refine aw_p 15863 (
    .a 3 6 <| .nil _ _) ?_
  refine aw_bl 2 31727 ?_
  refine aw_lp 63455 ?_
  refine al_round ?_
  refine aw_p 126911 (
    .a 1 6 <| .nil _ _) ?_
  refine aw_sq 253822 253823 ?_
  refine aw_tr 507644 ?_
  refine aw_sk ?_
  refine then_normal ?_
  refine aw_sq 507646 507647 ?_
  refine aw_bl 3 1015293 ?_
  refine aw_p 2030587 (
    .a 5 6 <| .nil _ _) ?_
  refine aw_p 4061175 (
    .a 6 6 <|
    .p (cS (m := 2) (args0 := [sV 0 R3.length, .int .i64 0, sV 1 R1.length]) (pre0 := [(0, (pB R3)), (1, (pB R1))]) (v0 := .int .i64 1) #[.tmp 32, .const (.int .i64 0), .tmp 33] #[39, 3, 39] [sV 3 R3.length, .int .i64 0, sV 1 R1.length] [3, 1] [(3, (pB R3)), (1, (pB R1))] (.int .i64 1) ((by have h := side_ok R3 R1 zR3 fR3 zR1 fR1 0 (by omega); rw [Sp.side_at F31.2.1 (by omega)] at h; exact h)) (.cons rS (.cons rF (.cons rS .nil))) ⟨rfl, bP, rfl, bP, trivial⟩ rF) <|
    .a 2 6 <| .nil _ _) ?_
  refine aw_tr 8122350 ?_
  refine aw_p1 (
    .a 7 6 <| .nil _ _) ?_
  refine block_normal ?_
  refine then_normal ?_
  refine aw_p1 (
    .a 2 6 <| .nil _ _) ?_
  refine then_normal ?_
  refine al_round ?_
  refine aw_p 126911 (
    .a 1 6 <| .nil _ _) ?_
  refine aw_sq 253822 253823 ?_
  refine aw_tr 507644 ?_
  refine aw_sk ?_
  refine then_normal ?_
  refine aw_sq 507646 507647 ?_
  refine aw_bl 3 1015293 ?_
  refine aw_p 2030587 (
    .a 5 6 <| .nil _ _) ?_
  refine aw_p 4061175 (
    .a 6 6 <|
    .p (cS (m := 2) (args0 := [sV 0 R3.length, .int .i64 0, sV 1 R2.length]) (pre0 := [(0, (pB R3)), (1, (pB R2))]) (v0 := .int .i64 1) #[.tmp 32, .const (.int .i64 0), .tmp 33] #[39, 3, 39] [sV 3 R3.length, .int .i64 0, sV 2 R2.length] [3, 2] [(3, (pB R3)), (2, (pB R2))] (.int .i64 1) ((by have h := side_ok R3 R2 zR3 fR3 zR2 fR2 0 (by omega); rw [Sp.side_at F32.2.1 (by omega)] at h; exact h)) (.cons rS (.cons rF (.cons rS .nil))) ⟨rfl, bP, rfl, bP, trivial⟩ rF) <|
    .a 2 6 <| .nil _ _) ?_
  refine aw_tr 8122350 ?_
  refine aw_p1 (
    .a 7 6 <| .nil _ _) ?_
  refine block_normal ?_
  refine then_normal ?_
  refine aw_p1 (
    .a 2 6 <| .nil _ _) ?_
  refine then_normal ?_
  refine al_round ?_
  refine aw_p 126911 (
    .a 1 6 <| .nil _ _) ?_
  refine aw_sq 253822 253823 ?_
  refine aw_tr 507644 ?_
  refine aw_sk ?_
  refine then_normal ?_
  refine aw_sq 507646 507647 ?_
  refine aw_bl 3 1015293 ?_
  refine aw_p 2030587 (
    .a 5 6 <| .nil _ _) ?_
  refine aw_p 4061175 (
    .a 9 6 <| .nil _ _) ?_
  refine aw_fl 8122351 ?_
  refine aw_sk ?_
  refine block_normal ?_
  refine then_normal ?_
  refine aw_p1 (
    .a 2 6 <| .nil _ _) ?_
  refine then_normal ?_
  refine al_round ?_
  refine aw_p 126911 (
    .a 1 6 <| .nil _ _) ?_
  refine aw_sq 253822 253823 ?_
  refine aw_tr 507644 ?_
  refine aw_sk ?_
  refine then_normal ?_
  refine aw_sq 507646 507647 ?_
  refine aw_bl 3 1015293 ?_
  refine aw_p 2030587 (
    .a 5 6 <| .nil _ _) ?_
  refine aw_p 4061175 (
    .a 6 6 <|
    .p (cS (m := 2) (args0 := [sV 0 R3.length, .int .i64 0, sV 1 R4.length]) (pre0 := [(0, (pB R3)), (1, (pB R4))]) (v0 := .int .i64 1) #[.tmp 32, .const (.int .i64 0), .tmp 33] #[39, 3, 39] [sV 3 R3.length, .int .i64 0, sV 4 R4.length] [3, 4] [(3, (pB R3)), (4, (pB R4))] (.int .i64 1) ((by have h := side_ok R3 R4 zR3 fR3 zR4 fR4 0 (by omega); rw [Sp.side_at F43.2.2 (by omega)] at h; exact h)) (.cons rS (.cons rF (.cons rS .nil))) ⟨rfl, bP, rfl, bP, trivial⟩ rF) <|
    .a 2 6 <| .nil _ _) ?_
  refine aw_tr 8122350 ?_
  refine aw_p1 (
    .a 7 6 <| .nil _ _) ?_
  refine block_normal ?_
  refine then_normal ?_
  refine aw_p1 (
    .a 2 6 <| .nil _ _) ?_
  refine then_normal ?_
  refine al_round ?_
  refine aw_p 126911 (
    .a 1 6 <| .nil _ _) ?_
  refine aw_sq 253822 253823 ?_
  refine aw_fl 507645 ?_
  refine aw_ex 2 ?_
  refine then_exit ?_
  refine then_exit ?_
  refine block_exit ?_
  refine block_normal ?_
  refine then_normal ?_
  refine aw_p1 (
    .a 2 6 <| .nil _ _) ?_
  refine then_normal ?_
  refine al_round ?_
  refine aw_p 495 (
    .a 1 6 <| .nil _ _) ?_
  refine aw_sq 990 991 ?_
  refine aw_tr 1980 ?_
  refine aw_sk ?_
  refine then_normal ?_
  refine aw_sq 1982 1983 ?_
  refine aw_bl 1 3965 ?_
  refine aw_p 7931 (
    .a 5 6 <| .nil _ _) ?_
  refine aw_p 15863 (
    .a 3 6 <| .nil _ _) ?_
  refine aw_bl 2 31727 ?_
  refine aw_lp 63455 ?_
  refine al_round ?_
  refine aw_p 126911 (
    .a 1 6 <| .nil _ _) ?_
  refine aw_sq 253822 253823 ?_
  refine aw_tr 507644 ?_
  refine aw_sk ?_
  refine then_normal ?_
  refine aw_sq 507646 507647 ?_
  refine aw_bl 3 1015293 ?_
  refine aw_p 2030587 (
    .a 5 6 <| .nil _ _) ?_
  refine aw_p 4061175 (
    .a 6 6 <|
    .p (cS (m := 2) (args0 := [sV 0 R4.length, .int .i64 0, sV 1 R1.length]) (pre0 := [(0, (pB R4)), (1, (pB R1))]) (v0 := .int .i64 (-1)) #[.tmp 32, .const (.int .i64 0), .tmp 33] #[39, 3, 39] [sV 4 R4.length, .int .i64 0, sV 1 R1.length] [4, 1] [(4, (pB R4)), (1, (pB R1))] (.int .i64 (-1)) ((by have h := side_ok R4 R1 zR4 fR4 zR1 fR1 0 (by omega); rw [Sp.side_at F41.2.1 (by omega)] at h; exact h)) (.cons rS (.cons rF (.cons rS .nil))) ⟨rfl, bP, rfl, bP, trivial⟩ rF) <|
    .a 2 6 <| .nil _ _) ?_
  refine aw_fl 8122351 ?_
  refine aw_sk ?_
  refine block_normal ?_
  refine then_normal ?_
  refine aw_p1 (
    .a 2 6 <| .nil _ _) ?_
  refine then_normal ?_
  refine al_round ?_
  refine aw_p 126911 (
    .a 1 6 <| .nil _ _) ?_
  refine aw_sq 253822 253823 ?_
  refine aw_tr 507644 ?_
  refine aw_sk ?_
  refine then_normal ?_
  refine aw_sq 507646 507647 ?_
  refine aw_bl 3 1015293 ?_
  refine aw_p 2030587 (
    .a 5 6 <| .nil _ _) ?_
  refine aw_p 4061175 (
    .a 6 6 <|
    .p (cS (m := 2) (args0 := [sV 0 R4.length, .int .i64 0, sV 1 R2.length]) (pre0 := [(0, (pB R4)), (1, (pB R2))]) (v0 := .int .i64 (-1)) #[.tmp 32, .const (.int .i64 0), .tmp 33] #[39, 3, 39] [sV 4 R4.length, .int .i64 0, sV 2 R2.length] [4, 2] [(4, (pB R4)), (2, (pB R2))] (.int .i64 (-1)) ((by have h := side_ok R4 R2 zR4 fR4 zR2 fR2 0 (by omega); rw [Sp.side_at F42.2.1 (by omega)] at h; exact h)) (.cons rS (.cons rF (.cons rS .nil))) ⟨rfl, bP, rfl, bP, trivial⟩ rF) <|
    .a 2 6 <| .nil _ _) ?_
  refine aw_fl 8122351 ?_
  refine aw_sk ?_
  refine block_normal ?_
  refine then_normal ?_
  refine aw_p1 (
    .a 2 6 <| .nil _ _) ?_
  refine then_normal ?_
  refine al_round ?_
  refine aw_p 126911 (
    .a 1 6 <| .nil _ _) ?_
  refine aw_sq 253822 253823 ?_
  refine aw_tr 507644 ?_
  refine aw_sk ?_
  refine then_normal ?_
  refine aw_sq 507646 507647 ?_
  refine aw_bl 3 1015293 ?_
  refine aw_p 2030587 (
    .a 5 6 <| .nil _ _) ?_
  refine aw_p 4061175 (
    .a 6 6 <|
    .p (cS (m := 2) (args0 := [sV 0 R4.length, .int .i64 0, sV 1 R3.length]) (pre0 := [(0, (pB R4)), (1, (pB R3))]) (v0 := .int .i64 (-1)) #[.tmp 32, .const (.int .i64 0), .tmp 33] #[39, 3, 39] [sV 4 R4.length, .int .i64 0, sV 3 R3.length] [4, 3] [(4, (pB R4)), (3, (pB R3))] (.int .i64 (-1)) ((by have h := side_ok R4 R3 zR4 fR4 zR3 fR3 0 (by omega); rw [Sp.side_at F43.2.1 (by omega)] at h; exact h)) (.cons rS (.cons rF (.cons rS .nil))) ⟨rfl, bP, rfl, bP, trivial⟩ rF) <|
    .a 2 6 <| .nil _ _) ?_
  refine aw_fl 8122351 ?_
  refine aw_sk ?_
  refine block_normal ?_
  refine then_normal ?_
  refine aw_p1 (
    .a 2 6 <| .nil _ _) ?_
  refine then_normal ?_
  refine al_round ?_
  refine aw_p 126911 (
    .a 1 6 <| .nil _ _) ?_
  refine aw_sq 253822 253823 ?_
  refine aw_tr 507644 ?_
  refine aw_sk ?_
  refine then_normal ?_
  refine aw_sq 507646 507647 ?_
  refine aw_bl 3 1015293 ?_
  refine aw_p 2030587 (
    .a 5 6 <| .nil _ _) ?_
  refine aw_p 4061175 (
    .a 9 6 <| .nil _ _) ?_
  refine aw_fl 8122351 ?_
  refine aw_sk ?_
  refine block_normal ?_
  refine then_normal ?_
  refine aw_p1 (
    .a 2 6 <| .nil _ _) ?_
  refine then_normal ?_
  refine al_round ?_
  refine aw_p 126911 (
    .a 1 6 <| .nil _ _) ?_
  refine aw_sq 253822 253823 ?_
  refine aw_fl 507645 ?_
  refine aw_ex 2 ?_
  refine then_exit ?_
  refine then_exit ?_
  refine block_exit ?_
  refine block_normal ?_
  refine then_normal ?_
  refine aw_p1 (
    .a 2 6 <| .nil _ _) ?_
  refine then_normal ?_
  refine al_round ?_
  refine aw_p 495 (
    .a 1 6 <| .nil _ _) ?_
  refine aw_sq 990 991 ?_
  refine aw_fl 1981 ?_
  refine aw_ex 0 ?_
  refine then_exit ?_
  refine then_exit ?_
  refine block_exit ?_
  refine then_normal ?_
  refine aw_p 63 (
    .a 2 6 <| .nil _ _) ?_
  refine aw_rt ?_
  exact en_ret [sV 5 4] (by kernel_rfl)
theorem atwice_o3 (R1 R2 R3 R4 : List (Int × Int)) (zR1 : 1 ≤ R1.length ∧ R1.length ≤ 200) (fR1 : Sp.Few 1000 R1) (zR2 : 1 ≤ R2.length ∧ R2.length ≤ 200) (fR2 : Sp.Few 1000 R2) (zR3 : 1 ≤ R3.length ∧ R3.length ≤ 200) (fR3 : Sp.Few 1000 R3) (zR4 : 1 ≤ R4.length ∧ R4.length ≤ 200) (fR4 : Sp.Few 1000 R4) (cR1 : Sp.chkF R1 = 0) (cR2 : Sp.chkF R2 = 0) (cR3 : Sp.chkF R3 = 0) (cR4 : Sp.chkF R4 = 0) (F21 : Sp.Fit R2 R1 1 (-1)) (F31 : Sp.Fit R3 R1 1 (-1)) (F32 : Sp.Fit R3 R2 1 (-1)) (F41 : Sp.Fit R4 R1 (-1) 1) (F42 : Sp.Fit R4 R2 (-1) 1) (F43 : Sp.Fit R4 R3 (-1) 1) (a1 a2 a3 a4 : Int) (t1 : Sp.twF R1 1 0 = a1) (b1 : -100000 ≤ a1 ∧ a1 ≤ 100000) (t2 : Sp.twF R2 1 0 = a2) (b2 : -100000 ≤ a2 ∧ a2 ≤ 100000) (t3 : Sp.twF R3 1 0 = a3) (b3 : -100000 ≤ a3 ∧ a3 ≤ 100000) (t4 : Sp.twF R4 1 0 = a4) (b4 : -100000 ≤ a4 ∧ a4 ≤ 100000) :
    AC Tryz.prog 10 5 ([sV 0 4]) [(0, ⟨[sV 1 R1.length, sV 2 R2.length, sV 3 R3.length, sV 4 R4.length], 39, true, 1⟩), (1, (pB R1)), (2, (pB R2)), (3, (pB R3)), (4, (pB R4))] (.int .i64 ((((0 + (0 - (Sp.mx a1 (0 - a1)))) + (Sp.mx a2 (0 - a2))) + (0 - (Sp.mx a3 (0 - a3)))) + (Sp.mx a4 (0 - a4)))) [(0, ⟨[sV 1 R1.length, sV 2 R2.length, sV 3 R3.length, sV 4 R4.length], 39, true, 1⟩), (1, (pB R1)), (2, (pB R2)), (3, (pB R3)), (4, (pB R4))] := by
  have m1 : 0 ≤ Sp.mx a1 (0 - a1) ∧ Sp.mx a1 (0 - a1) ≤ 100000 := (by unfold Sp.mx; split <;> omega); have m2 : 0 ≤ Sp.mx a2 (0 - a2) ∧ Sp.mx a2 (0 - a2) ≤ 100000 := (by unfold Sp.mx; split <;> omega); have m3 : 0 ≤ Sp.mx a3 (0 - a3) ∧ Sp.mx a3 (0 - a3) ≤ 100000 := (by unfold Sp.mx; split <;> omega); have m4 : 0 ≤ Sp.mx a4 (0 - a4) ∧ Sp.mx a4 (0 - a4) ≤ 100000 := (by unfold Sp.mx; split <;> omega)
  refine ac_in Tryz.func10 (fun w0 W pin => ?_)
  refine aw_p 3 (
    .a 1 5 <| .nil _ _) ?_
  refine aw_p 7 (
    .a 1 5 <| .nil _ _) ?_
  refine aw_sq 14 15 ?_
  refine aw_p 29 (
    .a 1 5 <|
    .p (cF #[.tmp 7] #[25] [sV 0 4] 1 [0, 1, 2, 3, 4, 5] [(0, ⟨[sV 1 R1.length, sV 2 R2.length, sV 3 R3.length, sV 4 R4.length], 39, true, 1⟩), (1, (pB R1)), (2, (pB R2)), (3, (pB R3)), (4, (pB R4))] [(0, ⟨[sV 1 R1.length, sV 2 R2.length, sV 3 R3.length, sV 4 R4.length], 39, true, 1⟩), (1, (pB R1)), (2, (pB R2)), (3, (pB R3)), (4, (pB R4)), (5, ⟨[.int .i64 1, .int .i64 2, .int .i64 3, .int .i64 0], 3, true, 1⟩)] (sV 5 4) (adepth_o3 R1 R2 R3 R4 zR1 fR1 zR2 fR2 zR3 fR3 zR4 fR4 cR1 cR2 cR3 cR4 F21 F31 F32 F41 F42 F43) (.cons rS .nil) ⟨rfl, ⟨rfl, rfl, rfl, (.cons rS (.cons rS (.cons rS (.cons rS .nil))))⟩, rfl, bP, rfl, bP, rfl, bP, rfl, bP, trivial⟩ ⟨rfl, ⟨rfl, rfl, rfl, (.cons rS (.cons rS (.cons rS (.cons rS .nil))))⟩, rfl, bP, rfl, bP, rfl, bP, rfl, bP, rfl, ⟨rfl, rfl, rfl, (.flats (by kernel_rfl))⟩, trivial⟩ rS) <|
    .a 2 6 <| .nil _ _) ?_
  refine aw_bl 0 59 ?_
  refine aw_lp 119 ?_
  refine al_round ?_
  refine aw_p 239 (
    .a 1 6 <| .nil _ _) ?_
  refine aw_sq 478 479 ?_
  refine aw_tr 956 ?_
  refine aw_sk ?_
  refine then_normal ?_
  refine aw_sq 958 959 ?_
  refine aw_bl 1 1917 ?_
  refine aw_p 3835 (
    .a 5 6 <| .nil _ _) ?_
  refine aw_p 7671 (
    .a 4 6 <| .p (cS (m := 1) (args0 := [sV 0 R1.length]) (pre0 := [(0, (pB R1))]) (v0 := .int .i64 a1) #[.tmp 18] #[39] [sV 1 R1.length] [1] [(1, (pB R1))] (.int .i64 a1) ((by have h := twicen_own R1 R1.length rfl (by omega); rw [t1] at h; exact h)) (.cons rS .nil) ⟨rfl, bP, trivial⟩ rF) <| .a 1 6 <| .nil _ _) ?_
  refine aw_p 15343 (
    .a 2 6 <| .p (does_i (0 - a1) (wrap_i64 (by omega) (by omega)) .i64) <| .a 2 6 <| .nil _ _) ?_
  refine aw_sq 30686 30687 ?_
  refine aw_p 61373 (
    .a 3 6 <| .nil _ _) ?_
  refine aw_tr 122746 ?_
  refine aw_p1 (
    .a 1 6 <| .p (does_i (0 - (Sp.mx a1 (0 - a1))) (wrap_i64 (by omega) (by omega)) .i64) <| .a 1 6 <| .nil _ _) ?_
  refine then_normal ?_
  refine aw_p1 (
    .a 2 6 <| .p (does_i (0 + (0 - (Sp.mx a1 (0 - a1)))) (wrap_i64 (by omega) (by omega)) .i64) <| .a 1 6 <| .nil _ _) ?_
  refine block_normal ?_
  refine then_normal ?_
  refine aw_p1 (
    .a 2 6 <| .nil _ _) ?_
  refine then_normal ?_
  refine al_round ?_
  refine aw_p 239 (
    .a 1 6 <| .nil _ _) ?_
  refine aw_sq 478 479 ?_
  refine aw_tr 956 ?_
  refine aw_sk ?_
  refine then_normal ?_
  refine aw_sq 958 959 ?_
  refine aw_bl 1 1917 ?_
  refine aw_p 3835 (
    .a 5 6 <| .nil _ _) ?_
  refine aw_p 7671 (
    .a 4 6 <| .p (cS (m := 1) (args0 := [sV 0 R2.length]) (pre0 := [(0, (pB R2))]) (v0 := .int .i64 a2) #[.tmp 18] #[39] [sV 2 R2.length] [2] [(2, (pB R2))] (.int .i64 a2) ((by have h := twicen_own R2 R2.length rfl (by omega); rw [t2] at h; exact h)) (.cons rS .nil) ⟨rfl, bP, trivial⟩ rF) <| .a 1 6 <| .nil _ _) ?_
  refine aw_p 15343 (
    .a 2 6 <| .p (does_i (0 - a2) (wrap_i64 (by omega) (by omega)) .i64) <| .a 2 6 <| .nil _ _) ?_
  refine aw_sq 30686 30687 ?_
  refine aw_p 61373 (
    .a 3 6 <| .nil _ _) ?_
  refine aw_fl 122747 ?_
  refine aw_sk ?_
  refine then_normal ?_
  refine aw_p1 (
    .a 2 6 <| .p (does_i ((0 + (0 - (Sp.mx a1 (0 - a1)))) + (Sp.mx a2 (0 - a2))) (wrap_i64 (by omega) (by omega)) .i64) <| .a 1 6 <| .nil _ _) ?_
  refine block_normal ?_
  refine then_normal ?_
  refine aw_p1 (
    .a 2 6 <| .nil _ _) ?_
  refine then_normal ?_
  refine al_round ?_
  refine aw_p 239 (
    .a 1 6 <| .nil _ _) ?_
  refine aw_sq 478 479 ?_
  refine aw_tr 956 ?_
  refine aw_sk ?_
  refine then_normal ?_
  refine aw_sq 958 959 ?_
  refine aw_bl 1 1917 ?_
  refine aw_p 3835 (
    .a 5 6 <| .nil _ _) ?_
  refine aw_p 7671 (
    .a 4 6 <| .p (cS (m := 1) (args0 := [sV 0 R3.length]) (pre0 := [(0, (pB R3))]) (v0 := .int .i64 a3) #[.tmp 18] #[39] [sV 3 R3.length] [3] [(3, (pB R3))] (.int .i64 a3) ((by have h := twicen_own R3 R3.length rfl (by omega); rw [t3] at h; exact h)) (.cons rS .nil) ⟨rfl, bP, trivial⟩ rF) <| .a 1 6 <| .nil _ _) ?_
  refine aw_p 15343 (
    .a 2 6 <| .p (does_i (0 - a3) (wrap_i64 (by omega) (by omega)) .i64) <| .a 2 6 <| .nil _ _) ?_
  refine aw_sq 30686 30687 ?_
  refine aw_p 61373 (
    .a 3 6 <| .nil _ _) ?_
  refine aw_tr 122746 ?_
  refine aw_p1 (
    .a 1 6 <| .p (does_i (0 - (Sp.mx a3 (0 - a3))) (wrap_i64 (by omega) (by omega)) .i64) <| .a 1 6 <| .nil _ _) ?_
  refine then_normal ?_
  refine aw_p1 (
    .a 2 6 <| .p (does_i (((0 + (0 - (Sp.mx a1 (0 - a1)))) + (Sp.mx a2 (0 - a2))) + (0 - (Sp.mx a3 (0 - a3)))) (wrap_i64 (by omega) (by omega)) .i64) <| .a 1 6 <| .nil _ _) ?_
  refine block_normal ?_
  refine then_normal ?_
  refine aw_p1 (
    .a 2 6 <| .nil _ _) ?_
  refine then_normal ?_
  refine al_round ?_
  refine aw_p 239 (
    .a 1 6 <| .nil _ _) ?_
  refine aw_sq 478 479 ?_
  refine aw_tr 956 ?_
  refine aw_sk ?_
  refine then_normal ?_
  refine aw_sq 958 959 ?_
  refine aw_bl 1 1917 ?_
  refine aw_p 3835 (
    .a 5 6 <| .nil _ _) ?_
  refine aw_p 7671 (
    .a 4 6 <| .p (cS (m := 1) (args0 := [sV 0 R4.length]) (pre0 := [(0, (pB R4))]) (v0 := .int .i64 a4) #[.tmp 18] #[39] [sV 4 R4.length] [4] [(4, (pB R4))] (.int .i64 a4) ((by have h := twicen_own R4 R4.length rfl (by omega); rw [t4] at h; exact h)) (.cons rS .nil) ⟨rfl, bP, trivial⟩ rF) <| .a 1 6 <| .nil _ _) ?_
  refine aw_p 15343 (
    .a 2 6 <| .p (does_i (0 - a4) (wrap_i64 (by omega) (by omega)) .i64) <| .a 2 6 <| .nil _ _) ?_
  refine aw_sq 30686 30687 ?_
  refine aw_p 61373 (
    .a 3 6 <| .nil _ _) ?_
  refine aw_fl 122747 ?_
  refine aw_sk ?_
  refine then_normal ?_
  refine aw_p1 (
    .a 2 6 <| .p (does_i ((((0 + (0 - (Sp.mx a1 (0 - a1)))) + (Sp.mx a2 (0 - a2))) + (0 - (Sp.mx a3 (0 - a3)))) + (Sp.mx a4 (0 - a4))) (wrap_i64 (by omega) (by omega)) .i64) <| .a 1 6 <| .nil _ _) ?_
  refine block_normal ?_
  refine then_normal ?_
  refine aw_p1 (
    .a 2 6 <| .nil _ _) ?_
  refine then_normal ?_
  refine al_round ?_
  refine aw_p 239 (
    .a 1 6 <| .nil _ _) ?_
  refine aw_sq 478 479 ?_
  refine aw_fl 957 ?_
  refine aw_ex 0 ?_
  refine then_exit ?_
  refine then_exit ?_
  refine block_exit ?_
  refine then_normal ?_
  refine aw_p 31 (
    .a 2 6 <| .nil _ _) ?_
  refine aw_rt ?_
  exact en_ret [.int .i64 ((((0 + (0 - (Sp.mx a1 (0 - a1)))) + (Sp.mx a2 (0 - a2))) + (0 - (Sp.mx a3 (0 - a3)))) + (Sp.mx a4 (0 - a4)))] (by kernel_rfl)
end Go.Proofs.YtndkhgfecnbmnaaGreat.Am

namespace Go.Proofs.YtndkhgfecnbmnaaGreat.Am
open Go Go.Proofs
set_option maxRecDepth 100000
set_option maxHeartbeats 4000000
set_option linter.unusedVariables false
set_option linter.unusedSimpArgs false
theorem areasSame_2 (xs : List Int) (R1 R2 R3 R4 : List (Int × Int)) (zR1 : 1 ≤ R1.length ∧ R1.length ≤ 200) (fR1 : Sp.Few 1000 R1) (zR2 : 1 ≤ R2.length ∧ R2.length ≤ 200) (fR2 : Sp.Few 1000 R2) (zR3 : 1 ≤ R3.length ∧ R3.length ≤ 200) (fR3 : Sp.Few 1000 R3) (zR4 : 1 ≤ R4.length ∧ R4.length ≤ 200) (fR4 : Sp.Few 1000 R4) (cR1 : Sp.chkF R1 = 0) (cR2 : Sp.chkF R2 = 0) (cR3 : Sp.chkF R3 = 0) (cR4 : Sp.chkF R4 = 0) (F21 : Sp.Fit R2 R1 1 (-1)) (F31 : Sp.Fit R3 R1 1 (-1)) (F32 : Sp.Fit R3 R2 1 (-1)) (F41 : Sp.Fit R4 R1 (-1) 1) (F42 : Sp.Fit R4 R2 (-1) 1) (F43 : Sp.Fit R4 R3 (-1) 1) (hm : AC Tryz.prog 5 1 [.slice (some ⟨0, 0, none⟩) xs.length 0] [(0, ⟨(xs.map i64v), 3, false, 1⟩)] (.slice (some ⟨1, 0, none⟩) 3 0) [(1, ⟨[sV 2 R1.length, sV 3 R2.length, sV 4 R3.length], 39, true, 1⟩), (2, (pB R1)), (3, (pB R2)), (4, (pB R3))]) (hn : AC Tryz.prog 7 4 [.slice (some ⟨0, 0, none⟩) 3 0] [(0, ⟨[sV 1 R1.length, sV 2 R2.length, sV 3 R3.length], 39, true, 1⟩), (1, (pB R1)), (2, (pB R2)), (3, (pB R3))] (.slice (some ⟨4, 0, none⟩) 3 0) [(0, ⟨[sV 1 R1.length, sV 2 R2.length, sV 3 R3.length], 39, true, 1⟩), (1, (pB R1)), (2, (pB R2)), (3, (pB R3)), (4, ⟨[sV 5 R1.length, sV 6 R2.length, sV 7 R3.length], 39, true, 1⟩), (5, (pB R1)), (6, (pB R2)), (7, (pB R3))]) (x px py : Int) (hx : AC Tryz.prog 6 0 [.int .i64 x] [] (.agg #[.int .i64 px, .int .i64 py]) []) (bpx : -40 ≤ px) (cpx : px ≤ 40) (bpy : -40 ≤ py) (cpy : py ≤ 40) (lx ly ux uy : Int) (l0 : -900 ≤ lx ∧ lx ≤ 900) (l1 : -900 ≤ ly ∧ ly ≤ 900) (l2 : -900 ≤ ux ∧ ux ≤ 900) (l3 : -900 ≤ uy ∧ uy ≤ 900) (hb : Sp.bxr ((R1 ++ R2) ++ R3) ((R1 ++ R2) ++ R3).length = (lx, ly, ux, uy)) (hA : Sp.rct (lx - 2) (ly - 2) (ux + 2) (uy + 2) = R4) (a1 a2 a3 a4 : Int) (t1 : Sp.twF R1 1 0 = a1) (b1 : -100000 ≤ a1 ∧ a1 ≤ 100000) (t2 : Sp.twF R2 1 0 = a2) (b2 : -100000 ≤ a2 ∧ a2 ≤ 100000) (t3 : Sp.twF R3 1 0 = a3) (b3 : -100000 ≤ a3 ∧ a3 ≤ 100000) (t4 : Sp.twF R4 1 0 = a4) (b4 : -100000 ≤ a4 ∧ a4 ≤ 100000) (ap : 0 ≤ a4) (hq : Sp.hasF R4 (Sp.lim 1048576 px) (Sp.lim 1048576 py) 0 (-1) = 1 ∨ ∀ z ∈ [Sp.hasF R1 (Sp.lim 1048576 px) (Sp.lim 1048576 py) 0 (-1), Sp.hasF R2 (Sp.lim 1048576 px) (Sp.lim 1048576 py) 0 (-1), Sp.hasF R3 (Sp.lim 1048576 px) (Sp.lim 1048576 py) 0 (-1)], z = -1) :
    AC Tryz.prog 3 1 ([sV 0 xs.length, .int .i64 x]) [(0, ⟨(xs.map i64v), 3, false, 1⟩)] (.bool true) [] := by
  have m1 : 0 ≤ Sp.mx a1 (0 - a1) ∧ Sp.mx a1 (0 - a1) ≤ 100000 := (by unfold Sp.mx; split <;> omega); have m2 : 0 ≤ Sp.mx a2 (0 - a2) ∧ Sp.mx a2 (0 - a2) ≤ 100000 := (by unfold Sp.mx; split <;> omega); have m3 : 0 ≤ Sp.mx a3 (0 - a3) ∧ Sp.mx a3 (0 - a3) ≤ 100000 := (by unfold Sp.mx; split <;> omega); have m4 : 0 ≤ Sp.mx a4 (0 - a4) ∧ Sp.mx a4 (0 - a4) ≤ 100000 := (by unfold Sp.mx; split <;> omega); have q0 := Sp.ahF_bd [Sp.hasF R1 (Sp.lim 1048576 px) (Sp.lim 1048576 py) 0 (-1), Sp.hasF R2 (Sp.lim 1048576 px) (Sp.lim 1048576 py) 0 (-1), Sp.hasF R3 (Sp.lim 1048576 px) (Sp.lim 1048576 py) 0 (-1)]; have q1 := Sp.ahF_bd [Sp.hasF R1 (Sp.lim 1048576 px) (Sp.lim 1048576 py) 0 (-1), Sp.hasF R2 (Sp.lim 1048576 px) (Sp.lim 1048576 py) 0 (-1), Sp.hasF R3 (Sp.lim 1048576 px) (Sp.lim 1048576 py) 0 (-1), Sp.hasF R4 (Sp.lim 1048576 px) (Sp.lim 1048576 py) 0 (-1)]
  refine ac_in Tryz.func3 (fun w0 W pin => ?_)
  refine aw_p 3 (
    .a 1 1 <| .nil _ _) ?_
  refine aw_sq 6 7 ?_
  refine aw_p 13 (
    .p (does_c (h6begun_ok)) <| .a 1 1 <| .nil _ _) ?_
  refine aw_fl 27 ?_
  refine aw_sk ?_
  refine then_normal ?_
  refine aw_p 15 (
    .a 1 1 <|
    .p (cF #[.tmp 16] #[22] [sV 0 xs.length] 4 [0, 1, 2, 3, 4] [(0, ⟨(xs.map i64v), 3, false, 1⟩)] [(1, ⟨[sV 2 R1.length, sV 3 R2.length, sV 4 R3.length], 39, true, 1⟩), (2, (pB R1)), (3, (pB R2)), (4, (pB R3))] (sV 1 3) (hm) (.cons rS .nil) ⟨rfl, ⟨rfl, rfl, rfl, (.flats (flats_map (fun _ => rfl) _))⟩, trivial⟩ ⟨rfl, ⟨rfl, rfl, rfl, (.cons rS (.cons rS (.cons rS .nil)))⟩, rfl, bP, rfl, bP, rfl, bP, trivial⟩ rS) <|
    .a 1 5 <| .p (does_c (hx)) <| .a 3 5 <| .nil _ _) ?_
  refine aw_p 31 (
    .a 1 6 <|
    .p (cF #[.tmp 20] #[25] [sV 1 3] 4 [1, 2, 3, 4, 6, 7, 8, 9] [(1, ⟨[sV 2 R1.length, sV 3 R2.length, sV 4 R3.length], 39, true, 1⟩), (2, (pB R1)), (3, (pB R2)), (4, (pB R3))] [(1, ⟨[sV 2 R1.length, sV 3 R2.length, sV 4 R3.length], 39, true, 1⟩), (2, (pB R1)), (3, (pB R2)), (4, (pB R3)), (6, ⟨[sV 7 R1.length, sV 8 R2.length, sV 9 R3.length], 39, true, 1⟩), (7, (pB R1)), (8, (pB R2)), (9, (pB R3))] (sV 6 3) (hn) (.cons rS .nil) ⟨rfl, ⟨rfl, rfl, rfl, (.cons rS (.cons rS (.cons rS .nil)))⟩, rfl, bP, rfl, bP, rfl, bP, trivial⟩ ⟨rfl, ⟨rfl, rfl, rfl, (.cons rS (.cons rS (.cons rS .nil)))⟩, rfl, bP, rfl, bP, rfl, bP, rfl, ⟨rfl, rfl, rfl, (.cons rS (.cons rS (.cons rS .nil)))⟩, rfl, bP, rfl, bP, rfl, bP, trivial⟩ rS) <|
    .a 1 10 <| .nil _ _) ?_
  refine aw_sq 62 63 ?_
  refine aw_d 125 (
    .a 1 10 <|
    .p (cS #[.tmp 22] #[25] [sV 1 3] [1, 2, 3, 4] [(1, ⟨[sV 2 R1.length, sV 3 R2.length, sV 4 R3.length], 39, true, 1⟩), (2, (pB R1)), (3, (pB R2)), (4, (pB R3))] (.int .i64 0) (acheck_n3 R1 R2 R3 zR1 fR1 zR2 fR2 zR3 fR3 cR1 cR2 cR3 F21 F31 F32) (.cons rS .nil) ⟨rfl, ⟨rfl, rfl, rfl, (.cons rS (.cons rS (.cons rS .nil)))⟩, rfl, bP, rfl, bP, rfl, bP, trivial⟩ rF) <|
    .a 11 10 <|
    .p (cS #[.tmp 33, .tmp 34] #[25, 28] [sV 6 3, .agg #[.int .i64 px, .int .i64 py]] [6, 7, 8, 9] [(6, ⟨[sV 7 R1.length, sV 8 R2.length, sV 9 R3.length], 39, true, 1⟩), (7, (pB R1)), (8, (pB R2)), (9, (pB R3))] (.int .i64 (Sp.ahF [Sp.hasF R1 (Sp.lim 1048576 px) (Sp.lim 1048576 py) 0 (-1), Sp.hasF R2 (Sp.lim 1048576 px) (Sp.lim 1048576 py) 0 (-1), Sp.hasF R3 (Sp.lim 1048576 px) (Sp.lim 1048576 py) 0 (-1)] (-1))) (ahas_3 R1 R2 R3 zR1 fR1 zR2 fR2 zR3 fR3 px py) (.cons rS (.cons rF .nil)) ⟨rfl, ⟨rfl, rfl, rfl, (.cons rS (.cons rS (.cons rS .nil)))⟩, rfl, bP, rfl, bP, rfl, bP, trivial⟩ rF) <|
    .a 2 10 <|
    .p (cS #[.tmp 36, .tmp 37] #[25, 28] [sV 1 3, .agg #[.int .i64 px, .int .i64 py]] [1, 2, 3, 4] [(1, ⟨[sV 2 R1.length, sV 3 R2.length, sV 4 R3.length], 39, true, 1⟩), (2, (pB R1)), (3, (pB R2)), (4, (pB R3))] (.int .i64 (Sp.ahF [Sp.hasF R1 (Sp.lim 1048576 px) (Sp.lim 1048576 py) 0 (-1), Sp.hasF R2 (Sp.lim 1048576 px) (Sp.lim 1048576 py) 0 (-1), Sp.hasF R3 (Sp.lim 1048576 px) (Sp.lim 1048576 py) 0 (-1)] (-1))) (ahas_3 R1 R2 R3 zR1 fR1 zR2 fR2 zR3 fR3 px py) (.cons rS (.cons rF .nil)) ⟨rfl, ⟨rfl, rfl, rfl, (.cons rS (.cons rS (.cons rS .nil)))⟩, rfl, bP, rfl, bP, rfl, bP, trivial⟩ rF) <|
    .p (does_b false ((show ((Sp.ahF [Sp.hasF R1 (Sp.lim 1048576 px) (Sp.lim 1048576 py) 0 (-1), Sp.hasF R2 (Sp.lim 1048576 px) (Sp.lim 1048576 py) 0 (-1), Sp.hasF R3 (Sp.lim 1048576 px) (Sp.lim 1048576 py) 0 (-1)] (-1)) != (Sp.ahF [Sp.hasF R1 (Sp.lim 1048576 px) (Sp.lim 1048576 py) 0 (-1), Sp.hasF R2 (Sp.lim 1048576 px) (Sp.lim 1048576 py) 0 (-1), Sp.hasF R3 (Sp.lim 1048576 px) (Sp.lim 1048576 py) 0 (-1)] (-1))) = false from by simp))) <|
    .a 3 10 <|
    .p (cS #[.tmp 42] #[25] [sV 6 3] [6, 7, 8, 9] [(6, ⟨[sV 7 R1.length, sV 8 R2.length, sV 9 R3.length], 39, true, 1⟩), (7, (pB R1)), (8, (pB R2)), (9, (pB R3))] (.int .i64 (((0 + (Sp.mx a1 (0 - a1))) + (0 - (Sp.mx a2 (0 - a2)))) + (Sp.mx a3 (0 - a3)))) (atwice_n3 R1 R2 R3 zR1 fR1 zR2 fR2 zR3 fR3 cR1 cR2 cR3 F21 F31 F32 a1 a2 a3 t1 b1 t2 b2 t3 b3) (.cons rS .nil) ⟨rfl, ⟨rfl, rfl, rfl, (.cons rS (.cons rS (.cons rS .nil)))⟩, rfl, bP, rfl, bP, rfl, bP, trivial⟩ rF) <|
    .a 1 10 <|
    .p (cS #[.tmp 44] #[25] [sV 1 3] [1, 2, 3, 4] [(1, ⟨[sV 2 R1.length, sV 3 R2.length, sV 4 R3.length], 39, true, 1⟩), (2, (pB R1)), (3, (pB R2)), (4, (pB R3))] (.int .i64 (((0 + (Sp.mx a1 (0 - a1))) + (0 - (Sp.mx a2 (0 - a2)))) + (Sp.mx a3 (0 - a3)))) (atwice_n3 R1 R2 R3 zR1 fR1 zR2 fR2 zR3 fR3 cR1 cR2 cR3 F21 F31 F32 a1 a2 a3 t1 b1 t2 b2 t3 b3) (.cons rS .nil) ⟨rfl, ⟨rfl, rfl, rfl, (.cons rS (.cons rS (.cons rS .nil)))⟩, rfl, bP, rfl, bP, rfl, bP, trivial⟩ rF) <|
    .p (does_b false ((show ((((0 + (Sp.mx a1 (0 - a1))) + (0 - (Sp.mx a2 (0 - a2)))) + (Sp.mx a3 (0 - a3))) != (((0 + (Sp.mx a1 (0 - a1))) + (0 - (Sp.mx a2 (0 - a2)))) + (Sp.mx a3 (0 - a3)))) = false from by simp))) <| .a 1 10 <| .nil _ _) ?_
  refine aw_fl 251 ?_
  refine aw_sk ?_
  refine then_normal ?_
  refine aw_p 127 (
    .a 1 10 <|
    .p (cS (m := 4) (args0 := [sV 0 3]) (pre0 := [(0, ⟨[sV 1 R1.length, sV 2 R2.length, sV 3 R3.length], 39, true, 1⟩), (1, (pB R1)), (2, (pB R2)), (3, (pB R3))]) (v0 := .agg #[.int .i64 lx, .int .i64 ly, .int .i64 ux, .int .i64 uy]) #[.tmp 48] #[25] [sV 1 3] [1, 2, 3, 4] [(1, ⟨[sV 2 R1.length, sV 3 R2.length, sV 4 R3.length], 39, true, 1⟩), (2, (pB R1)), (3, (pB R2)), (4, (pB R3))] (.agg #[.int .i64 lx, .int .i64 ly, .int .i64 ux, .int .i64 uy]) ((by have h := abox_3 R1 R2 R3 zR1 fR1 zR2 fR2 zR3 fR3; rw [hb] at h; exact h)) (.cons rS .nil) ⟨rfl, ⟨rfl, rfl, rfl, (.cons rS (.cons rS (.cons rS .nil)))⟩, rfl, bP, rfl, bP, rfl, bP, trivial⟩ rF) <|
    .a 2 10 <| .nil _ _) ?_
  refine aw_p 255 (
    .a 1 11 <| .p (does_c (grow_in lx ly ux uy 2 (by omega) (by omega) (by omega) (by omega) (by omega) (by omega) (by omega) (by omega) (by omega) (by omega))) <| .a 2 11 <| .nil _ _) ?_
  refine aw_p 511 (
    .a 20 12 <| .nil _ _) ?_
  refine aw_w [(0, sV 0 xs.length), (1, .int .i64 x), (4, .bool false), (5, sV 1 3), (6, .pointer (some ⟨5, 0, none⟩)), (7, sV 6 3), (8, .pointer (some ⟨10, 0, none⟩)), (9, .pointer (some ⟨11, 0, none⟩)), (10, sV 12 R4.length), (14, .bool true), (15, .bool false), (16, sV 0 xs.length), (17, sV 1 3), (18, .int .i64 x), (19, .agg #[.int .i64 px, .int .i64 py]), (20, sV 1 3), (21, sV 6 3), (22, sV 1 3), (23, .int .i64 0), (24, .bool false), (25, .bool false), (26, sV 6 3), (27, .int .i64 3), (28, sV 1 3), (29, .int .i64 3), (30, .bool false), (31, .bool false), (32, .bool false), (33, sV 6 3), (34, .agg #[.int .i64 px, .int .i64 py]), (35, .int .i64 (Sp.ahF [Sp.hasF R1 (Sp.lim 1048576 px) (Sp.lim 1048576 py) 0 (-1), Sp.hasF R2 (Sp.lim 1048576 px) (Sp.lim 1048576 py) 0 (-1), Sp.hasF R3 (Sp.lim 1048576 px) (Sp.lim 1048576 py) 0 (-1)] (-1))), (36, sV 1 3), (37, .agg #[.int .i64 px, .int .i64 py]), (38, .int .i64 (Sp.ahF [Sp.hasF R1 (Sp.lim 1048576 px) (Sp.lim 1048576 py) 0 (-1), Sp.hasF R2 (Sp.lim 1048576 px) (Sp.lim 1048576 py) 0 (-1), Sp.hasF R3 (Sp.lim 1048576 px) (Sp.lim 1048576 py) 0 (-1)] (-1))), (39, .bool false), (40, .bool false), (41, .bool false), (42, sV 6 3), (43, .int .i64 (((0 + (Sp.mx a1 (0 - a1))) + (0 - (Sp.mx a2 (0 - a2)))) + (Sp.mx a3 (0 - a3)))), (44, sV 1 3), (45, .int .i64 (((0 + (Sp.mx a1 (0 - a1))) + (0 - (Sp.mx a2 (0 - a2)))) + (Sp.mx a3 (0 - a3)))), (46, .bool false), (47, .bool false), (48, sV 1 3), (49, .agg #[.int .i64 lx, .int .i64 ly, .int .i64 ux, .int .i64 uy]), (50, .agg #[.int .i64 lx, .int .i64 ly, .int .i64 ux, .int .i64 uy]), (51, .agg #[.int .i64 (lx - 2), .int .i64 (ly - 2), .int .i64 (ux + 2), .int .i64 (uy + 2)]), (52, .pointer (some ⟨11, 0, none⟩)), (53, .agg #[.int .i64 (lx - 2), .int .i64 (ly - 2)]), (54, .pointer (some ⟨11, 2, none⟩)), (55, .pointer (some ⟨11, 2, none⟩)), (56, .int .i64 (ux + 2)), (57, .pointer (some ⟨11, 0, none⟩)), (58, .pointer (some ⟨11, 1, none⟩)), (59, .int .i64 (ly - 2)), (60, .agg #[.int .i64 (ux + 2), .int .i64 (ly - 2)]), (61, .pointer (some ⟨11, 2, none⟩)), (62, .agg #[.int .i64 (ux + 2), .int .i64 (uy + 2)]), (63, .pointer (some ⟨11, 0, none⟩)), (64, .pointer (some ⟨11, 0, none⟩)), (65, .int .i64 (lx - 2)), (66, .pointer (some ⟨11, 2, none⟩)), (67, .pointer (some ⟨11, 3, none⟩)), (68, .int .i64 (uy + 2)), (69, .agg #[.int .i64 (lx - 2), .int .i64 (uy + 2)]), (70, sV 12 R4.length)] [(0, ⟨(xs.map i64v), 3, false, 1⟩), (1, ⟨[sV 2 R1.length, sV 3 R2.length, sV 4 R3.length], 39, true, 1⟩), (2, (pB R1)), (3, (pB R2)), (4, (pB R3)), (5, ⟨[.int .i64 px, .int .i64 py], 28, true, 2⟩), (6, ⟨[sV 7 R1.length, sV 8 R2.length, sV 9 R3.length], 39, true, 1⟩), (7, (pB R1)), (8, (pB R2)), (9, (pB R3)), (10, ⟨[.int .i64 lx, .int .i64 ly, .int .i64 ux, .int .i64 uy], 36, true, 4⟩), (11, ⟨[.int .i64 (lx - 2), .int .i64 (ly - 2), .int .i64 (ux + 2), .int .i64 (uy + 2)], 36, true, 4⟩), (12, (pB R4))] ?_ (by rw [← hA]; kernel_rfl) (by rw [← hA]; kernel_rfl) (hc := (by simp [closedB, valsB, valB, List.all_eq_true, List.mem_flatMap, List.mem_range, List.mem_map, i64v, ptc, flat1]; try (intros; simp [valsB, valB, flat1]); try decide))
  refine aw_p 1023 (
    .a 1 13 <|
    .p (cF #[.tmp 71] #[25] [sV 1 3] 1 [1, 2, 3, 4, 13] [(1, ⟨[sV 2 R1.length, sV 3 R2.length, sV 4 R3.length], 39, true, 1⟩), (2, (pB R1)), (3, (pB R2)), (4, (pB R3))] [(1, ⟨[sV 2 R1.length, sV 3 R2.length, sV 4 R3.length], 39, true, 1⟩), (2, (pB R1)), (3, (pB R2)), (4, (pB R3)), (13, ⟨[sV 2 R1.length, sV 3 R2.length, sV 4 R3.length], 39, true, 1⟩)] (sV 13 3) (aclone_3 R1 R2 R3 zR1 fR1 zR2 fR2 zR3 fR3) (.cons rS .nil) ⟨rfl, ⟨rfl, rfl, rfl, (.cons rS (.cons rS (.cons rS .nil)))⟩, rfl, bP, rfl, bP, rfl, bP, trivial⟩ ⟨rfl, ⟨rfl, rfl, rfl, (.cons rS (.cons rS (.cons rS .nil)))⟩, rfl, bP, rfl, bP, rfl, bP, rfl, ⟨rfl, rfl, rfl, (.cons rS (.cons rS (.cons rS .nil)))⟩, trivial⟩ rS) <|
    .a 2 14 <| .p (does_ap 15) <| .a 1 16 <| .nil _ _) ?_
  refine aw_sq 2046 2047 ?_
  refine aw_p 4093 (
    .a 1 16 <|
    .p (cS #[.tmp 76] #[25] [sV 15 4] [15, 2, 3, 4, 12] [(15, ⟨[sV 2 R1.length, sV 3 R2.length, sV 4 R3.length, sV 12 R4.length], 39, true, 1⟩), (2, (pB R1)), (3, (pB R2)), (4, (pB R3)), (12, (pB R4))] (.int .i64 0) (acheck_o3 R1 R2 R3 R4 zR1 fR1 zR2 fR2 zR3 fR3 zR4 fR4 cR1 cR2 cR3 cR4 F21 F31 F32 F41 F42 F43) (.cons rS .nil) ⟨rfl, ⟨rfl, rfl, rfl, (.cons rS (.cons rS (.cons rS (.cons rS .nil))))⟩, rfl, bP, rfl, bP, rfl, bP, rfl, bP, trivial⟩ rF) <|
    .a 3 16 <|
    .p (cS #[.tmp 80] #[25] [sV 15 4] [15, 2, 3, 4, 12] [(15, ⟨[sV 2 R1.length, sV 3 R2.length, sV 4 R3.length, sV 12 R4.length], 39, true, 1⟩), (2, (pB R1)), (3, (pB R2)), (4, (pB R3)), (12, (pB R4))] (.int .i64 ((((0 + (0 - (Sp.mx a1 (0 - a1)))) + (Sp.mx a2 (0 - a2))) + (0 - (Sp.mx a3 (0 - a3)))) + (Sp.mx a4 (0 - a4)))) (atwice_o3 R1 R2 R3 R4 zR1 fR1 zR2 fR2 zR3 fR3 zR4 fR4 cR1 cR2 cR3 cR4 F21 F31 F32 F41 F42 F43 a1 a2 a3 a4 t1 b1 t2 b2 t3 b3 t4 b4) (.cons rS .nil) ⟨rfl, ⟨rfl, rfl, rfl, (.cons rS (.cons rS (.cons rS (.cons rS .nil))))⟩, rfl, bP, rfl, bP, rfl, bP, rfl, bP, trivial⟩ rF) <|
    .a 1 16 <| .p (cS (m := 1) (args0 := [sV 0 R4.length]) (pre0 := [(0, (pB R4))]) (v0 := .int .i64 a4) #[.tmp 82] #[39] [sV 12 R4.length] [12] [(12, (pB R4))] (.int .i64 a4) ((by have h := twicen_own R4 R4.length rfl (by omega); rw [t4] at h; exact h)) (.cons rS .nil) ⟨rfl, bP, trivial⟩ rF) <|
    .a 1 16 <|
    .p (cS #[.tmp 84] #[25] [sV 1 3] [1, 2, 3, 4] [(1, ⟨[sV 2 R1.length, sV 3 R2.length, sV 4 R3.length], 39, true, 1⟩), (2, (pB R1)), (3, (pB R2)), (4, (pB R3))] (.int .i64 (((0 + (Sp.mx a1 (0 - a1))) + (0 - (Sp.mx a2 (0 - a2)))) + (Sp.mx a3 (0 - a3)))) (atwice_n3 R1 R2 R3 zR1 fR1 zR2 fR2 zR3 fR3 cR1 cR2 cR3 F21 F31 F32 a1 a2 a3 t1 b1 t2 b2 t3 b3) (.cons rS .nil) ⟨rfl, ⟨rfl, rfl, rfl, (.cons rS (.cons rS (.cons rS .nil)))⟩, rfl, bP, rfl, bP, rfl, bP, trivial⟩ rF) <|
    .p (does_i (a4 - (((0 + (Sp.mx a1 (0 - a1))) + (0 - (Sp.mx a2 (0 - a2)))) + (Sp.mx a3 (0 - a3)))) (wrap_i64 (by omega) (by omega)) .i64) <|
    .p (does_b false ((show (((((0 + (0 - (Sp.mx a1 (0 - a1)))) + (Sp.mx a2 (0 - a2))) + (0 - (Sp.mx a3 (0 - a3)))) + (Sp.mx a4 (0 - a4))) != (a4 - (((0 + (Sp.mx a1 (0 - a1))) + (0 - (Sp.mx a2 (0 - a2)))) + (Sp.mx a3 (0 - a3))))) = false from (by rw [bne_eq_false_iff_eq, show Sp.mx a4 (0 - a4) = a4 by unfold Sp.mx; split <;> omega]; omega)))) <|
    .a 1 16 <| .nil _ _) ?_
  refine aw_fl 8187 ?_
  refine aw_sk ?_
  refine then_normal ?_
  refine aw_d 4095 (
    .a 2 16 <|
    .p (cS #[.tmp 89, .tmp 90] #[25, 28] [sV 1 3, .agg #[.int .i64 px, .int .i64 py]] [1, 2, 3, 4] [(1, ⟨[sV 2 R1.length, sV 3 R2.length, sV 4 R3.length], 39, true, 1⟩), (2, (pB R1)), (3, (pB R2)), (4, (pB R3))] (.int .i64 (Sp.ahF [Sp.hasF R1 (Sp.lim 1048576 px) (Sp.lim 1048576 py) 0 (-1), Sp.hasF R2 (Sp.lim 1048576 px) (Sp.lim 1048576 py) 0 (-1), Sp.hasF R3 (Sp.lim 1048576 px) (Sp.lim 1048576 py) 0 (-1)] (-1))) (ahas_3 R1 R2 R3 zR1 fR1 zR2 fR2 zR3 fR3 px py) (.cons rS (.cons rF .nil)) ⟨rfl, ⟨rfl, rfl, rfl, (.cons rS (.cons rS (.cons rS .nil)))⟩, rfl, bP, rfl, bP, rfl, bP, trivial⟩ rF) <|
    .a 2 16 <|
    .p (cS #[.tmp 92, .tmp 93] #[25, 28] [sV 15 4, .agg #[.int .i64 px, .int .i64 py]] [15, 2, 3, 4, 12] [(15, ⟨[sV 2 R1.length, sV 3 R2.length, sV 4 R3.length, sV 12 R4.length], 39, true, 1⟩), (2, (pB R1)), (3, (pB R2)), (4, (pB R3)), (12, (pB R4))] (.int .i64 (Sp.ahF [Sp.hasF R1 (Sp.lim 1048576 px) (Sp.lim 1048576 py) 0 (-1), Sp.hasF R2 (Sp.lim 1048576 px) (Sp.lim 1048576 py) 0 (-1), Sp.hasF R3 (Sp.lim 1048576 px) (Sp.lim 1048576 py) 0 (-1), Sp.hasF R4 (Sp.lim 1048576 px) (Sp.lim 1048576 py) 0 (-1)] (-1))) (ahas_4 R1 R2 R3 R4 zR1 fR1 zR2 fR2 zR3 fR3 zR4 fR4 px py) (.cons rS (.cons rF .nil)) ⟨rfl, ⟨rfl, rfl, rfl, (.cons rS (.cons rS (.cons rS (.cons rS .nil))))⟩, rfl, bP, rfl, bP, rfl, bP, rfl, bP, trivial⟩ rF) <|
    .a 2 16 <| .nil _ _) ?_
  refine aw_sq 8190 8191 ?_
  refine aw_p 16381 (
    .a 2 16 <| .p (cS #[.tmp 95, .tmp 96] #[39, 28] [sV 12 R4.length, .agg #[.int .i64 px, .int .i64 py]] [12] [(12, (pB R4))] (.int .i64 (Sp.hasF R4 (Sp.lim 1048576 px) (Sp.lim 1048576 py) 0 (-1))) (hasn_own R4 R4.length rfl (by omega) px py) (.cons rS (.cons rF .nil)) ⟨rfl, bP, trivial⟩ rF) <|
    .a 1 16 <| .nil _ _) ?_
  refine aw_cd 32762 32763 ((Sp.hasF R4 (Sp.lim 1048576 px) (Sp.lim 1048576 py) 0 (-1)) != 1) (fun h1 => ?_) (fun h1 => ?_)
  · have h1p : (¬ ((Sp.hasF R4 (Sp.lim 1048576 px) (Sp.lim 1048576 py) 0 (-1)) = 1)) := by first | (simpa using h1) | (have h1q := h1; simp at h1q; omega) | (have h1q := bx1 h1; simp at h1q; omega)
    refine aw_p 65525 (
      .a 1 16 <|
      .p (does_b true ((show ((Sp.ahF [Sp.hasF R1 (Sp.lim 1048576 px) (Sp.lim 1048576 py) 0 (-1), Sp.hasF R2 (Sp.lim 1048576 px) (Sp.lim 1048576 py) 0 (-1), Sp.hasF R3 (Sp.lim 1048576 px) (Sp.lim 1048576 py) 0 (-1)] (-1)) == (-1)) = true from (by have hz := hq.resolve_left (by simpa using h1); rw [beq_iff_eq]; exact Sp.all_out hz)))) <|
      .a 4 16 <| .p (cS #[.tmp 103, .tmp 104] #[39, 28] [sV 12 R4.length, .agg #[.int .i64 px, .int .i64 py]] [12] [(12, (pB R4))] (.int .i64 (Sp.hasF R4 (Sp.lim 1048576 px) (Sp.lim 1048576 py) 0 (-1))) (hasn_own R4 R4.length rfl (by omega) px py) (.cons rS (.cons rF .nil)) ⟨rfl, bP, trivial⟩ rF) <|
      .p (does_b true ((show ((Sp.ahF [Sp.hasF R1 (Sp.lim 1048576 px) (Sp.lim 1048576 py) 0 (-1), Sp.hasF R2 (Sp.lim 1048576 px) (Sp.lim 1048576 py) 0 (-1), Sp.hasF R3 (Sp.lim 1048576 px) (Sp.lim 1048576 py) 0 (-1), Sp.hasF R4 (Sp.lim 1048576 px) (Sp.lim 1048576 py) 0 (-1)] (-1)) == (Sp.hasF R4 (Sp.lim 1048576 px) (Sp.lim 1048576 py) 0 (-1))) = true from (by have hz := hq.resolve_left (by simpa using h1); rw [beq_iff_eq]; exact Sp.ah_out (hs := [Sp.hasF R1 (Sp.lim 1048576 px) (Sp.lim 1048576 py) 0 (-1), Sp.hasF R2 (Sp.lim 1048576 px) (Sp.lim 1048576 py) 0 (-1), Sp.hasF R3 (Sp.lim 1048576 px) (Sp.lim 1048576 py) 0 (-1)]) hz (by rcases Sp.has_cases R4 (Sp.lim 1048576 px) (Sp.lim 1048576 py) with q | q | q <;> first | exact .inl q | exact .inr q | exact absurd q (by simpa using h1)))))) <|
      .a 2 16 <| .nil _ _) ?_
    refine aw_rt ?_
    refine then_ret ?_
    exact en_ret [.bool true] (by kernel_rfl)
  · have h1p : ¬ (¬ ((Sp.hasF R4 (Sp.lim 1048576 px) (Sp.lim 1048576 py) 0 (-1)) = 1)) := by first | (simpa using h1) | (have h1q := h1; simp at h1q; omega) | (have h1q := bx2 h1; simp at h1q; omega)
    refine aw_sk ?_
    refine then_normal ?_
    refine aw_p 16383 (
      .a 2 16 <| .p (does_i (0 - (Sp.ahF [Sp.hasF R1 (Sp.lim 1048576 px) (Sp.lim 1048576 py) 0 (-1), Sp.hasF R2 (Sp.lim 1048576 px) (Sp.lim 1048576 py) 0 (-1), Sp.hasF R3 (Sp.lim 1048576 px) (Sp.lim 1048576 py) 0 (-1)] (-1))) (wrap_i64 (by omega) (by omega)) .i64) <|
      .p (does_b true ((show ((Sp.ahF [Sp.hasF R1 (Sp.lim 1048576 px) (Sp.lim 1048576 py) 0 (-1), Sp.hasF R2 (Sp.lim 1048576 px) (Sp.lim 1048576 py) 0 (-1), Sp.hasF R3 (Sp.lim 1048576 px) (Sp.lim 1048576 py) 0 (-1), Sp.hasF R4 (Sp.lim 1048576 px) (Sp.lim 1048576 py) 0 (-1)] (-1)) == (0 - (Sp.ahF [Sp.hasF R1 (Sp.lim 1048576 px) (Sp.lim 1048576 py) 0 (-1), Sp.hasF R2 (Sp.lim 1048576 px) (Sp.lim 1048576 py) 0 (-1), Sp.hasF R3 (Sp.lim 1048576 px) (Sp.lim 1048576 py) 0 (-1)] (-1)))) = true from (by rw [beq_iff_eq]; exact Sp.ah_last (hs := [Sp.hasF R1 (Sp.lim 1048576 px) (Sp.lim 1048576 py) 0 (-1), Sp.hasF R2 (Sp.lim 1048576 px) (Sp.lim 1048576 py) 0 (-1), Sp.hasF R3 (Sp.lim 1048576 px) (Sp.lim 1048576 py) 0 (-1)]) (by simpa using h1))))) <|
      .a 1 16 <| .nil _ _) ?_
    refine aw_rt ?_
    exact en_ret [.bool true] (by kernel_rfl)
end Go.Proofs.YtndkhgfecnbmnaaGreat.Am

namespace Go.Proofs.YtndkhgfecnbmnaaGreat.Am
open Go Go.Proofs
set_option maxRecDepth 100000
set_option maxHeartbeats 4000000
set_option linter.unusedVariables false
set_option linter.unusedSimpArgs false
theorem acheck_s2 (R1 R2 : List (Int × Int)) (zR1 : 1 ≤ R1.length ∧ R1.length ≤ 200) (fR1 : Sp.Few 1000 R1) (zR2 : 1 ≤ R2.length ∧ R2.length ≤ 200) (fR2 : Sp.Few 1000 R2) (cR1 : Sp.chkF R1 = 0) (cR2 : Sp.chkF R2 = 0) (F21 : Sp.Fit R2 R1 (-1) (-1)) :
    AC Tryz.prog 8 3 ([sV 0 2]) [(0, ⟨[sV 1 R1.length, sV 2 R2.length], 39, true, 1⟩), (1, (pB R1)), (2, (pB R2))] (.int .i64 0) [(0, ⟨[sV 1 R1.length, sV 2 R2.length], 39, true, 1⟩), (1, (pB R1)), (2, (pB R2))] := by
  refine ac_in Tryz.func8 (fun w0 W pin => ?_)
  refine aw_p 3 (
    .a 1 3 <| .nil _ _) ?_
  refine aw_sq 6 7 ?_
  refine aw_p 13 (
    .a 3 3 <| .nil _ _) ?_
  refine aw_fl 27 ?_
  refine aw_sk ?_
  refine then_normal ?_
  refine aw_sq 14 15 ?_
  refine aw_p 29 (
    .a 3 3 <| .nil _ _) ?_
  refine aw_bl 0 59 ?_
  refine aw_lp 119 ?_
  refine al_round ?_
  refine aw_p 239 (
    .a 1 3 <| .nil _ _) ?_
  refine aw_sq 478 479 ?_
  refine aw_tr 956 ?_
  refine aw_sk ?_
  refine then_normal ?_
  refine aw_sq 958 959 ?_
  refine aw_bl 1 1917 ?_
  refine aw_p 3835 (
    .a 3 3 <| .nil _ _) ?_
  refine aw_p 7671 (
    .a 1 3 <| .p (cS (m := 1) (args0 := [sV 0 R1.length]) (pre0 := [(0, (pB R1))]) (v0 := .int .i64 0) #[.tmp 19] #[39] [sV 1 R1.length] [1] [(1, (pB R1))] (.int .i64 0) ((by have h := chkn_own R1 R1.length rfl (by omega); rw [cR1] at h; exact h)) (.cons rS .nil) ⟨rfl, bP, trivial⟩ rF) <| .a 1 3 <| .nil _ _) ?_
  refine aw_p 15343 (
    .a 2 3 <| .nil _ _) ?_
  refine aw_fl 30687 ?_
  refine aw_sk ?_
  refine block_normal ?_
  refine then_normal ?_
  refine aw_p1 (
    .a 2 3 <| .nil _ _) ?_
  refine then_normal ?_
  refine al_round ?_
  refine aw_p 239 (
    .a 1 3 <| .nil _ _) ?_
  refine aw_sq 478 479 ?_
  refine aw_tr 956 ?_
  refine aw_sk ?_
  refine then_normal ?_
  refine aw_sq 958 959 ?_
  refine aw_bl 1 1917 ?_
  refine aw_p 3835 (
    .a 3 3 <| .nil _ _) ?_
  refine aw_p 7671 (
    .a 1 3 <| .p (cS (m := 1) (args0 := [sV 0 R2.length]) (pre0 := [(0, (pB R2))]) (v0 := .int .i64 0) #[.tmp 19] #[39] [sV 2 R2.length] [2] [(2, (pB R2))] (.int .i64 0) ((by have h := chkn_own R2 R2.length rfl (by omega); rw [cR2] at h; exact h)) (.cons rS .nil) ⟨rfl, bP, trivial⟩ rF) <| .a 1 3 <| .nil _ _) ?_
  refine aw_p 15343 (
    .a 2 3 <| .nil _ _) ?_
  refine aw_fl 30687 ?_
  refine aw_sk ?_
  refine block_normal ?_
  refine then_normal ?_
  refine aw_p1 (
    .a 2 3 <| .nil _ _) ?_
  refine then_normal ?_
  refine al_round ?_
  refine aw_p 239 (
    .a 1 3 <| .nil _ _) ?_
  refine aw_sq 478 479 ?_
  refine aw_fl 957 ?_
  refine aw_ex 0 ?_
  refine then_exit ?_
  refine then_exit ?_
  refine block_exit ?_
  refine then_normal ?_
  refine aw_sq 30 31 ?_
  refine aw_p 61 (
    .a 3 3 <| .nil _ _) ?_
  refine aw_bl 2 123 ?_
  refine aw_lp 247 ?_
  refine al_round ?_
  refine aw_p 495 (
    .a 1 3 <| .nil _ _) ?_
  refine aw_sq 990 991 ?_
  refine aw_tr 1980 ?_
  refine aw_sk ?_
  refine then_normal ?_
  refine aw_sq 1982 1983 ?_
  refine aw_bl 3 3965 ?_
  refine aw_p 7931 (
    .a 5 3 <| .nil _ _) ?_
  refine aw_p 15863 (
    .a 2 3 <|
    .p (does_val (v' := sV 0 0) (does_slice (t := 25) (x := .tmp 32) (lo := none) (hi := some (.tmp 33)) (k := 0) (off := 0) (n := 2) (c := 0) (z := 1) (l := 0) (h := 0) (m := 0) (b := ⟨[sV 1 R1.length, sV 2 R2.length], 39, true, 1⟩) (by kernel_rfl) (by kernel_rfl) (by kernel_rfl) (by kernel_rfl) (by kernel_rfl) (by kernel_rfl) (by kernel_rfl) (by kernel_rfl) (by decide) (by decide) (by decide) (by decide)) (by kernel_rfl)) <|
    .a 2 3 <| .nil _ _) ?_
  refine aw_bl 4 31727 ?_
  refine aw_lp 63455 ?_
  refine al_round ?_
  refine aw_p 126911 (
    .a 1 3 <| .nil _ _) ?_
  refine aw_sq 253822 253823 ?_
  refine aw_fl 507645 ?_
  refine aw_ex 4 ?_
  refine then_exit ?_
  refine then_exit ?_
  refine block_exit ?_
  refine block_normal ?_
  refine then_normal ?_
  refine aw_p1 (
    .a 2 3 <| .nil _ _) ?_
  refine then_normal ?_
  refine al_round ?_
  refine aw_p 495 (
    .a 1 3 <| .nil _ _) ?_
  refine aw_sq 990 991 ?_
  refine aw_tr 1980 ?_
  refine aw_sk ?_
  refine then_normal ?_
  refine aw_sq 1982 1983 ?_
  refine aw_bl 3 3965 ?_
  refine aw_p 7931 (
    .a 5 3 <| .nil _ _) ?_
  refine aw_p 15863 (
    .a 2 3 <|
    .p (does_val (v' := sV 0 1) (does_slice (t := 25) (x := .tmp 32) (lo := none) (hi := some (.tmp 33)) (k := 0) (off := 0) (n := 2) (c := 0) (z := 1) (l := 0) (h := 1) (m := 1) (b := ⟨[sV 1 R1.length, sV 2 R2.length], 39, true, 1⟩) (by kernel_rfl) (by kernel_rfl) (by kernel_rfl) (by kernel_rfl) (by kernel_rfl) (by kernel_rfl) (by kernel_rfl) (by kernel_rfl) (by decide) (by decide) (by decide) (by decide)) (by kernel_rfl)) <|
    .a 2 3 <| .nil _ _) ?_
  refine aw_bl 4 31727 ?_
  refine aw_lp 63455 ?_
  refine al_round ?_
  refine aw_p 126911 (
    .a 1 3 <| .nil _ _) ?_
  refine aw_sq 253822 253823 ?_
  refine aw_tr 507644 ?_
  refine aw_sk ?_
  refine then_normal ?_
  refine aw_sq 507646 507647 ?_
  refine aw_bl 5 1015293 ?_
  refine aw_p 2030587 (
    .a 3 3 <| .nil _ _) ?_
  refine aw_p 4061175 (
    .a 2 3 <| .p (cS #[.tmp 40, .tmp 41] #[39, 39] [sV 2 R2.length, sV 1 R1.length] [2, 1] [(2, (pB R2)), (1, (pB R1))] (.bool true) (fits_ok R2 R1 (-1) (-1) zR2 fR2 zR1 fR1 F21) (.cons rS (.cons rS .nil)) ⟨rfl, bP, rfl, bP, trivial⟩ rF) <| .a 1 3 <| .nil _ _) ?_
  refine aw_fl 8122351 ?_
  refine aw_sk ?_
  refine block_normal ?_
  refine then_normal ?_
  refine aw_p1 (
    .a 2 3 <| .nil _ _) ?_
  refine then_normal ?_
  refine al_round ?_
  refine aw_p 126911 (
    .a 1 3 <| .nil _ _) ?_
  refine aw_sq 253822 253823 ?_
  refine aw_fl 507645 ?_
  refine aw_ex 4 ?_
  refine then_exit ?_
  refine then_exit ?_
  refine block_exit ?_
  refine block_normal ?_
  refine then_normal ?_
  refine aw_p1 (
    .a 2 3 <| .nil _ _) ?_
  refine then_normal ?_
  refine al_round ?_
  refine aw_p 495 (
    .a 1 3 <| .nil _ _) ?_
  refine aw_sq 990 991 ?_
  refine aw_fl 1981 ?_
  refine aw_ex 2 ?_
  refine then_exit ?_
  refine then_exit ?_
  refine block_exit ?_
  refine then_normal ?_
  refine aw_p 63 (
    .a 1 3 <| .nil _ _) ?_
  refine aw_rt ?_
  exact en_ret [.int .i64 0] (by kernel_rfl)
theorem adepth_s2 (R1 R2 : List (Int × Int)) (zR1 : 1 ≤ R1.length ∧ R1.length ≤ 200) (fR1 : Sp.Few 1000 R1) (zR2 : 1 ≤ R2.length ∧ R2.length ≤ 200) (fR2 : Sp.Few 1000 R2) (cR1 : Sp.chkF R1 = 0) (cR2 : Sp.chkF R2 = 0) (F21 : Sp.Fit R2 R1 (-1) (-1)) :
    AC Tryz.prog 27 3 ([sV 0 2]) [(0, ⟨[sV 1 R1.length, sV 2 R2.length], 39, true, 1⟩), (1, (pB R1)), (2, (pB R2))] (sV 3 2) [(0, ⟨[sV 1 R1.length, sV 2 R2.length], 39, true, 1⟩), (1, (pB R1)), (2, (pB R2)), (3, ⟨[.int .i64 0, .int .i64 0], 3, true, 1⟩)] := by
  refine ac_in Tryz.func27 (fun w0 W pin => ?_)
  refine aw_p 3 (
    .a 1 3 <| .nil _ _) ?_
  refine aw_sq 6 7 ?_
  refine aw_p 13 (
    .a 1 3 <| .p (cS #[.tmp 8] #[25] [sV 0 2] [0, 1, 2] [(0, ⟨[sV 1 R1.length, sV 2 R2.length], 39, true, 1⟩), (1, (pB R1)), (2, (pB R2))] (.int .i64 0) (acheck_s2 R1 R2 zR1 fR1 zR2 fR2 cR1 cR2 F21) (.cons rS .nil) ⟨rfl, ⟨rfl, rfl, rfl, (.cons rS (.cons rS .nil))⟩, rfl, bP, rfl, bP, trivial⟩ rF) <|
    .a 1 3 <| .nil _ _) ?_
  refine aw_fl 27 ?_
  refine aw_sk ?_
  refine then_normal ?_
  refine aw_p 15 (
    .a 2 3 <| .p (does_mk (kl := .i64) (kc := .i64) (n' := 2) (c' := 2) 3 3 1 8 2 2 (.int .i64 0) [.int .i64 0, .int .i64 0] (by kernel_rfl) (by kernel_rfl) (by kernel_rfl) (by kernel_rfl) (by decide) (by decide) (by decide) (by decide) (by decide)) <| .a 1 4 <| .nil _ _) ?_
  refine aw_sq 30 31 ?_
  refine aw_p 61 (
    .a 3 4 <| .nil _ _) ?_
  refine aw_bl 0 123 ?_
  refine aw_lp 247 ?_
  refine al_round ?_
  refine aw_p 495 (
    .a 1 4 <| .nil _ _) ?_
  refine aw_sq 990 991 ?_
  refine aw_tr 1980 ?_
  refine aw_sk ?_
  refine then_normal ?_
  refine aw_sq 1982 1983 ?_
  refine aw_bl 1 3965 ?_
  refine aw_p 7931 (
    .a 5 4 <| .nil _ _) ?_
  refine aw_p 15863 (
    .a 3 4 <| .nil _ _) ?_
  refine aw_bl 2 31727 ?_
  refine aw_lp 63455 ?_
  refine al_round ?_
  refine aw_p 126911 (
    .a 1 4 <| .nil _ _) ?_
  refine aw_sq 253822 253823 ?_
  refine aw_tr 507644 ?_
  refine aw_sk ?_
  refine then_normal ?_
  refine aw_sq 507646 507647 ?_
  refine aw_bl 3 1015293 ?_
  refine aw_p 2030587 (
    .a 5 4 <| .nil _ _) ?_
  refine aw_p 4061175 (
    .a 9 4 <| .nil _ _) ?_
  refine aw_fl 8122351 ?_
  refine aw_sk ?_
  refine block_normal ?_
  refine then_normal ?_
  refine aw_p1 (
    .a 2 4 <| .nil _ _) ?_
  refine then_normal ?_
  refine al_round ?_
  refine aw_p 126911 (
    .a 1 4 <| .nil _ _) ?_
  refine aw_sq 253822 253823 ?_
  refine aw_tr 507644 ?_
  refine aw_sk ?_
  refine then_normal ?_
  refine aw_sq 507646 507647 ?_
  refine aw_bl 3 1015293 ?_
  refine aw_p 2030587 (
    .a 5 4 <| .nil _ _) ?_
  refine aw_p 4061175 (
    .a 6 4 <|
    .p (cS (m := 2) (args0 := [sV 0 R1.length, .int .i64 0, sV 1 R2.length]) (pre0 := [(0, (pB R1)), (1, (pB R2))]) (v0 := .int .i64 (-1)) #[.tmp 32, .const (.int .i64 0), .tmp 33] #[39, 3, 39] [sV 1 R1.length, .int .i64 0, sV 2 R2.length] [1, 2] [(1, (pB R1)), (2, (pB R2))] (.int .i64 (-1)) ((by have h := side_ok R1 R2 zR1 fR1 zR2 fR2 0 (by omega); rw [Sp.side_at F21.2.2 (by omega)] at h; exact h)) (.cons rS (.cons rF (.cons rS .nil))) ⟨rfl, bP, rfl, bP, trivial⟩ rF) <|
    .a 2 4 <| .nil _ _) ?_
  refine aw_fl 8122351 ?_
  refine aw_sk ?_
  refine block_normal ?_
  refine then_normal ?_
  refine aw_p1 (
    .a 2 4 <| .nil _ _) ?_
  refine then_normal ?_
  refine al_round ?_
  refine aw_p 126911 (
    .a 1 4 <| .nil _ _) ?_
  refine aw_sq 253822 253823 ?_
  refine aw_fl 507645 ?_
  refine aw_ex 2 ?_
  refine then_exit ?_
  refine then_exit ?_
  refine block_exit ?_
  refine block_normal ?_
  refine then_normal ?_
  refine aw_p1 (
    .a 2 4 <| .nil _ _) ?_
  refine then_normal ?_
  refine al_round ?_
  refine aw_p 495 (
    .a 1 4 <| .nil _ _) ?_
  refine aw_sq 990 991 ?_
  refine aw_tr 1980 ?_
  refine aw_sk ?_
  refine then_normal ?_
  refine aw_sq 1982 1983 ?_
  refine aw_bl 1 3965 ?_
  refine aw_p 7931 (
    .a 5 4 <| .nil _ _) ?_
  refine aw_p 15863 (
    .a 3 4 <| .nil _ _) ?_
  refine aw_bl 2 31727 ?_
  refine aw_lp 63455 ?_
  refine al_round ?_
  refine aw_p 126911 (
    .a 1 4 <| .nil _ _) ?_
  refine aw_sq 253822 253823 ?_
  refine aw_tr 507644 ?_
  refine aw_sk ?_
  refine then_normal ?_
  refine aw_sq 507646 507647 ?_
  refine aw_bl 3 1015293 ?_
  refine aw_p 2030587 (
    .a 5 4 <| .nil _ _) ?_
  refine aw_p 4061175 (
    .a 6 4 <|
    .p (cS (m := 2) (args0 := [sV 0 R2.length, .int .i64 0, sV 1 R1.length]) (pre0 := [(0, (pB R2)), (1, (pB R1))]) (v0 := .int .i64 (-1)) #[.tmp 32, .const (.int .i64 0), .tmp 33] #[39, 3, 39] [sV 2 R2.length, .int .i64 0, sV 1 R1.length] [2, 1] [(2, (pB R2)), (1, (pB R1))] (.int .i64 (-1)) ((by have h := side_ok R2 R1 zR2 fR2 zR1 fR1 0 (by omega); rw [Sp.side_at F21.2.1 (by omega)] at h; exact h)) (.cons rS (.cons rF (.cons rS .nil))) ⟨rfl, bP, rfl, bP, trivial⟩ rF) <|
    .a 2 4 <| .nil _ _) ?_
  refine aw_fl 8122351 ?_
  refine aw_sk ?_
  refine block_normal ?_
  refine then_normal ?_
  refine aw_p1 (
    .a 2 4 <| .nil _ _) ?_
  refine then_normal ?_
  refine al_round ?_
  refine aw_p 126911 (
    .a 1 4 <| .nil _ _) ?_
  refine aw_sq 253822 253823 ?_
  refine aw_tr 507644 ?_
  refine aw_sk ?_
  refine then_normal ?_
  refine aw_sq 507646 507647 ?_
  refine aw_bl 3 1015293 ?_
  refine aw_p 2030587 (
    .a 5 4 <| .nil _ _) ?_
  refine aw_p 4061175 (
    .a 9 4 <| .nil _ _) ?_
  refine aw_fl 8122351 ?_
  refine aw_sk ?_
  refine block_normal ?_
  refine then_normal ?_
  refine aw_p1 (
    .a 2 4 <| .nil _ _) ?_
  refine then_normal ?_
  refine al_round ?_
  refine aw_p 126911 (
    .a 1 4 <| .nil _ _) ?_
  refine aw_sq 253822 253823 ?_
  refine aw_fl 507645 ?_
  refine aw_ex 2 ?_
  refine then_exit ?_
  refine then_exit ?_
  refine block_exit ?_
  refine block_normal ?_
  refine then_normal ?_
  refine aw_p1 (
    .a 2 4 <| .nil _ _) ?_
  refine then_normal ?_
  refine al_round ?_
  refine aw_p 495 (
    .a 1 4 <| .nil _ _) ?_
  refine aw_sq 990 991 ?_
  refine aw_fl 1981 ?_
  refine aw_ex 0 ?_
  refine then_exit ?_
  refine then_exit ?_
  refine block_exit ?_
  refine then_normal ?_
  refine aw_p 63 (
    .a 2 4 <| .nil _ _) ?_
  refine aw_rt ?_
  exact en_ret [sV 3 2] (by kernel_rfl)
theorem atwice_s2 (R1 R2 : List (Int × Int)) (zR1 : 1 ≤ R1.length ∧ R1.length ≤ 200) (fR1 : Sp.Few 1000 R1) (zR2 : 1 ≤ R2.length ∧ R2.length ≤ 200) (fR2 : Sp.Few 1000 R2) (cR1 : Sp.chkF R1 = 0) (cR2 : Sp.chkF R2 = 0) (F21 : Sp.Fit R2 R1 (-1) (-1)) (a1 a2 : Int) (t1 : Sp.twF R1 1 0 = a1) (b1 : -100000 ≤ a1 ∧ a1 ≤ 100000) (t2 : Sp.twF R2 1 0 = a2) (b2 : -100000 ≤ a2 ∧ a2 ≤ 100000) :
    AC Tryz.prog 10 3 ([sV 0 2]) [(0, ⟨[sV 1 R1.length, sV 2 R2.length], 39, true, 1⟩), (1, (pB R1)), (2, (pB R2))] (.int .i64 ((0 + (Sp.mx a1 (0 - a1))) + (Sp.mx a2 (0 - a2)))) [(0, ⟨[sV 1 R1.length, sV 2 R2.length], 39, true, 1⟩), (1, (pB R1)), (2, (pB R2))] := by
  have m1 : 0 ≤ Sp.mx a1 (0 - a1) ∧ Sp.mx a1 (0 - a1) ≤ 100000 := (by unfold Sp.mx; split <;> omega); have m2 : 0 ≤ Sp.mx a2 (0 - a2) ∧ Sp.mx a2 (0 - a2) ≤ 100000 := (by unfold Sp.mx; split <;> omega)
  refine ac_in Tryz.func10 (fun w0 W pin => ?_)
  refine aw_p 3 (
    .a 1 3 <| .nil _ _) ?_
  refine aw_p 7 (
    .a 1 3 <| .nil _ _) ?_
  refine aw_sq 14 15 ?_
  refine aw_p 29 (
    .a 1 3 <|
    .p (cF #[.tmp 7] #[25] [sV 0 2] 1 [0, 1, 2, 3] [(0, ⟨[sV 1 R1.length, sV 2 R2.length], 39, true, 1⟩), (1, (pB R1)), (2, (pB R2))] [(0, ⟨[sV 1 R1.length, sV 2 R2.length], 39, true, 1⟩), (1, (pB R1)), (2, (pB R2)), (3, ⟨[.int .i64 0, .int .i64 0], 3, true, 1⟩)] (sV 3 2) (adepth_s2 R1 R2 zR1 fR1 zR2 fR2 cR1 cR2 F21) (.cons rS .nil) ⟨rfl, ⟨rfl, rfl, rfl, (.cons rS (.cons rS .nil))⟩, rfl, bP, rfl, bP, trivial⟩ ⟨rfl, ⟨rfl, rfl, rfl, (.cons rS (.cons rS .nil))⟩, rfl, bP, rfl, bP, rfl, ⟨rfl, rfl, rfl, (.flats (by kernel_rfl))⟩, trivial⟩ rS) <|
    .a 2 4 <| .nil _ _) ?_
  refine aw_bl 0 59 ?_
  refine aw_lp 119 ?_
  refine al_round ?_
  refine aw_p 239 (
    .a 1 4 <| .nil _ _) ?_
  refine aw_sq 478 479 ?_
  refine aw_tr 956 ?_
  refine aw_sk ?_
  refine then_normal ?_
  refine aw_sq 958 959 ?_
  refine aw_bl 1 1917 ?_
  refine aw_p 3835 (
    .a 5 4 <| .nil _ _) ?_
  refine aw_p 7671 (
    .a 4 4 <| .p (cS (m := 1) (args0 := [sV 0 R1.length]) (pre0 := [(0, (pB R1))]) (v0 := .int .i64 a1) #[.tmp 18] #[39] [sV 1 R1.length] [1] [(1, (pB R1))] (.int .i64 a1) ((by have h := twicen_own R1 R1.length rfl (by omega); rw [t1] at h; exact h)) (.cons rS .nil) ⟨rfl, bP, trivial⟩ rF) <| .a 1 4 <| .nil _ _) ?_
  refine aw_p 15343 (
    .a 2 4 <| .p (does_i (0 - a1) (wrap_i64 (by omega) (by omega)) .i64) <| .a 2 4 <| .nil _ _) ?_
  refine aw_sq 30686 30687 ?_
  refine aw_p 61373 (
    .a 3 4 <| .nil _ _) ?_
  refine aw_fl 122747 ?_
  refine aw_sk ?_
  refine then_normal ?_
  refine aw_p1 (
    .a 2 4 <| .p (does_i (0 + (Sp.mx a1 (0 - a1))) (wrap_i64 (by omega) (by omega)) .i64) <| .a 1 4 <| .nil _ _) ?_
  refine block_normal ?_
  refine then_normal ?_
  refine aw_p1 (
    .a 2 4 <| .nil _ _) ?_
  refine then_normal ?_
  refine al_round ?_
  refine aw_p 239 (
    .a 1 4 <| .nil _ _) ?_
  refine aw_sq 478 479 ?_
  refine aw_tr 956 ?_
  refine aw_sk ?_
  refine then_normal ?_
  refine aw_sq 958 959 ?_
  refine aw_bl 1 1917 ?_
  refine aw_p 3835 (
    .a 5 4 <| .nil _ _) ?_
  refine aw_p 7671 (
    .a 4 4 <| .p (cS (m := 1) (args0 := [sV 0 R2.length]) (pre0 := [(0, (pB R2))]) (v0 := .int .i64 a2) #[.tmp 18] #[39] [sV 2 R2.length] [2] [(2, (pB R2))] (.int .i64 a2) ((by have h := twicen_own R2 R2.length rfl (by omega); rw [t2] at h; exact h)) (.cons rS .nil) ⟨rfl, bP, trivial⟩ rF) <| .a 1 4 <| .nil _ _) ?_
  refine aw_p 15343 (
    .a 2 4 <| .p (does_i (0 - a2) (wrap_i64 (by omega) (by omega)) .i64) <| .a 2 4 <| .nil _ _) ?_
  refine aw_sq 30686 30687 ?_
  refine aw_p 61373 (
    .a 3 4 <| .nil _ _) ?_
  refine aw_fl 122747 ?_
  refine aw_sk ?_
  refine then_normal ?_
  refine aw_p1 (
    .a 2 4 <| .p (does_i ((0 + (Sp.mx a1 (0 - a1))) + (Sp.mx a2 (0 - a2))) (wrap_i64 (by omega) (by omega)) .i64) <| .a 1 4 <| .nil _ _) ?_
  refine block_normal ?_
  refine then_normal ?_
  refine aw_p1 (
    .a 2 4 <| .nil _ _) ?_
  refine then_normal ?_
  refine al_round ?_
  refine aw_p 239 (
    .a 1 4 <| .nil _ _) ?_
  refine aw_sq 478 479 ?_
  refine aw_fl 957 ?_
  refine aw_ex 0 ?_
  refine then_exit ?_
  refine then_exit ?_
  refine block_exit ?_
  refine then_normal ?_
  refine aw_p 31 (
    .a 2 4 <| .nil _ _) ?_
  refine aw_rt ?_
  exact en_ret [.int .i64 ((0 + (Sp.mx a1 (0 - a1))) + (Sp.mx a2 (0 - a2)))] (by kernel_rfl)
end Go.Proofs.YtndkhgfecnbmnaaGreat.Am
