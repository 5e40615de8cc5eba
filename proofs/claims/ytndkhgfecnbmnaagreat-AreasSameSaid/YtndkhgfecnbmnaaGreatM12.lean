import Derived.Test.YtndkhgfecnbmnaaGreatProg
import Derived.Test.YtndkhgfecnbmnaaGreatM2
import Derived.Test.YtndkhgfecnbmnaaGreatM6
import Derived.Test.YtndkhgfecnbmnaaGreatM3
import Derived.Test.YtndkhgfecnbmnaaGreatM11
import Derived.Test.YtndkhgfecnbmnaaGreatM7
import Derived.Test.YtndkhgfecnbmnaaGreatM8
import Derived.Test.YtndkhgfecnbmnaaGreatM9
import Derived.Test.YtndkhgfecnbmnaaGreatM10
import Derived.Test.YtndkhgfecnbmnaaGreatM4
namespace Go.Proofs.YtndkhgfecnbmnaaGreat.Am
open Go Go.Proofs
set_option maxRecDepth 100000
set_option maxHeartbeats 4000000
set_option linter.unusedVariables false
set_option linter.unusedSimpArgs false
theorem acheck_os (R1 R2 R3 : List (Int × Int)) (zR1 : 1 ≤ R1.length ∧ R1.length ≤ 200) (fR1 : Sp.Few 1000 R1) (zR2 : 1 ≤ R2.length ∧ R2.length ≤ 200) (fR2 : Sp.Few 1000 R2) (zR3 : 1 ≤ R3.length ∧ R3.length ≤ 200) (fR3 : Sp.Few 1000 R3) (cR1 : Sp.chkF R1 = 0) (cR2 : Sp.chkF R2 = 0) (cR3 : Sp.chkF R3 = 0) (F21 : Sp.Fit R2 R1 (-1) (-1)) (F31 : Sp.Fit R3 R1 (-1) 1) (F32 : Sp.Fit R3 R2 (-1) 1) :
    AC Tryz.prog 8 4 ([sV 0 3]) [(0, ⟨[sV 1 R1.length, sV 2 R2.length, sV 3 R3.length], 39, true, 1⟩), (1, (pB R1)), (2, (pB R2)), (3, (pB R3))] (.int .i64 0) [(0, ⟨[sV 1 R1.length, sV 2 R2.length, sV 3 R3.length], 39, true, 1⟩), (1, (pB R1)), (2, (pB R2)), (3, (pB R3))] := by
  refine ac_in Tryz.func8 (fun w0 W pin => ?_)
  refine aw_p 3 (
    .a 1 4 <| .nil _ _) ?_
  refine aw_sq 6 7 ?_
  refine aw_p 13 (
    .a 3 4 <| .nil _ _) ?_
  refine aw_fl 27 ?_
  refine aw_sk ?_
  refine then_normal ?_
  refine aw_sq 14 15 ?_
  refine aw_p 29 (
    .a 3 4 <| .nil _ _) ?_
  refine aw_bl 0 59 ?_
  refine aw_lp 119 ?_
  refine al_round ?_
  refine aw_p 239 (
    .a 1 4 <| .nil _ _) ?_
  refine aw_sq 478 479 ?_
  refine aw_tr 956 ?_
  refine aw_sk ?_
  refine then_normal ?_
  refine aw_sq 958 959 ?_
  refine aw_bl 1 1917 ?_
  refine aw_p 3835 (
    .a 3 4 <| .nil _ _) ?_
  refine aw_p 7671 (
    .a 1 4 <| .p (cS (m := 1) (args0 := [sV 0 R1.length]) (pre0 := [(0, (pB R1))]) (v0 := .int .i64 0) #[.tmp 19] #[39] [sV 1 R1.length] [1] [(1, (pB R1))] (.int .i64 0) ((by have h := chkn_own R1 R1.length rfl (by omega); rw [cR1] at h; exact h)) (.cons rS .nil) ⟨rfl, bP, trivial⟩ rF) <| .a 1 4 <| .nil _ _) ?_
  refine aw_p 15343 (
    .a 2 4 <| .nil _ _) ?_
  refine aw_fl 30687 ?_
  refine aw_sk ?_
  refine block_normal ?_
  refine then_normal ?_
  refine aw_p1 (
    .a 2 4 <| .nil _ _) ?_
  refine then_normal ?_
  refine al_round ?_
  refine aw_p 239 (
    .a 1 4 <| .nil _ _) ?_
  refine aw_sq 478 479 ?_
  refine aw_tr 956 ?_
  refine aw_sk ?_
  refine then_normal ?_
  refine aw_sq 958 959 ?_
  refine aw_bl 1 1917 ?_
  refine aw_p 3835 (
    .a 3 4 <| .nil _ _) ?_
  refine aw_p 7671 (
    .a 1 4 <| .p (cS (m := 1) (args0 := [sV 0 R2.length]) (pre0 := [(0, (pB R2))]) (v0 := .int .i64 0) #[.tmp 19] #[39] [sV 2 R2.length] [2] [(2, (pB R2))] (.int .i64 0) ((by have h := chkn_own R2 R2.length rfl (by omega); rw [cR2] at h; exact h)) (.cons rS .nil) ⟨rfl, bP, trivial⟩ rF) <| .a 1 4 <| .nil _ _) ?_
  refine aw_p 15343 (
    .a 2 4 <| .nil _ _) ?_
  refine aw_fl 30687 ?_
  refine aw_sk ?_
  refine block_normal ?_
  refine then_normal ?_
  refine aw_p1 (
    .a 2 4 <| .nil _ _) ?_
  refine then_normal ?_
  refine al_round ?_
  refine aw_p 239 (
    .a 1 4 <| .nil _ _) ?_
  refine aw_sq 478 479 ?_
  refine aw_tr 956 ?_
  refine aw_sk ?_
  refine then_normal ?_
  refine aw_sq 958 959 ?_
  refine aw_bl 1 1917 ?_
  refine aw_p 3835 (
    .a 3 4 <| .nil _ _) ?_
  refine aw_p 7671 (
    .a 1 4 <| .p (cS (m := 1) (args0 := [sV 0 R3.length]) (pre0 := [(0, (pB R3))]) (v0 := .int .i64 0) #[.tmp 19] #[39] [sV 3 R3.length] [3] [(3, (pB R3))] (.int .i64 0) ((by have h := chkn_own R3 R3.length rfl (by omega); rw [cR3] at h; exact h)) (.cons rS .nil) ⟨rfl, bP, trivial⟩ rF) <| .a 1 4 <| .nil _ _) ?_
  refine aw_p 15343 (
    .a 2 4 <| .nil _ _) ?_
  refine aw_fl 30687 ?_
  refine aw_sk ?_
  refine block_normal ?_
  refine then_normal ?_
  refine aw_p1 (
    .a 2 4 <| .nil _ _) ?_
  refine then_normal ?_
  refine al_round ?_
  refine aw_p 239 (
    .a 1 4 <| .nil _ _) ?_
  refine aw_sq 478 479 ?_
  refine aw_fl 957 ?_
  refine aw_ex 0 ?_
  refine then_exit ?_
  refine then_exit ?_
  refine block_exit ?_
  refine then_normal ?_
  refine aw_sq 30 31 ?_
  refine aw_p 61 (
    .a 3 4 <| .nil _ _) ?_
  refine aw_bl 2 123 ?_
  refine aw_lp 247 ?_
  refine al_round ?_
  refine aw_p 495 (
    .a 1 4 <| .nil _ _) ?_
  refine aw_sq 990 991 ?_
  refine aw_tr 1980 ?_
  refine aw_sk ?_
  refine then_normal ?_
  refine aw_sq 1982 1983 ?_
  refine aw_bl 3 3965 ?_
  refine aw_p 7931 (
    .a 5 4 <| .nil _ _) ?_
  refine aw_p 15863 (
    .a 2 4 <|
    .p (does_val (v' := sV 0 0) (does_slice (t := 25) (x := .tmp 32) (lo := none) (hi := some (.tmp 33)) (k := 0) (off := 0) (n := 3) (c := 0) (z := 1) (l := 0) (h := 0) (m := 0) (b := ⟨[sV 1 R1.length, sV 2 R2.length, sV 3 R3.length], 39, true, 1⟩) (by kernel_rfl) (by kernel_rfl) (by kernel_rfl) (by kernel_rfl) (by kernel_rfl) (by kernel_rfl) (by kernel_rfl) (by kernel_rfl) (by decide) (by decide) (by decide) (by decide)) (by kernel_rfl)) <|
    .a 2 4 <| .nil _ _) ?_
  refine aw_bl 4 31727 ?_
  refine aw_lp 63455 ?_
  refine al_round ?_
  refine aw_p 126911 (
    .a 1 4 <| .nil _ _) ?_
  refine aw_sq 253822 253823 ?_
  refine aw_fl 507645 ?_
  refine aw_ex 4 ?_
  refine then_exit ?_
  refine then_exit ?_
  refine block_exit ?_
  refine block_normal ?_
  refine then_normal ?_
  refine aw_p1 (
    .a 2 4 <| .nil _ _) ?_
  refine then_normal ?_
  refine al_round ?_
  refine aw_p 495 (
    .a 1 4 <| .nil _ _) ?_
  refine aw_sq 990 991 ?_
  refine aw_tr 1980 ?_
  refine aw_sk ?_
  refine then_normal ?_
  refine aw_sq 1982 1983 ?_
  refine aw_bl 3 3965 ?_
  refine aw_p 7931 (
    .a 5 4 <| .nil _ _) ?_
  refine aw_p 15863 (
    .a 2 4 <|
    .p (does_val (v' := sV 0 1) (does_slice (t := 25) (x := .tmp 32) (lo := none) (hi := some (.tmp 33)) (k := 0) (off := 0) (n := 3) (c := 0) (z := 1) (l := 0) (h := 1) (m := 1) (b := ⟨[sV 1 R1.length, sV 2 R2.length, sV 3 R3.length], 39, true, 1⟩) (by kernel_rfl) (by kernel_rfl) (by kernel_rfl) (by kernel_rfl) (by kernel_rfl) (by kernel_rfl) (by kernel_rfl) (by kernel_rfl) (by decide) (by decide) (by decide) (by decide)) (by kernel_rfl)) <|
    .a 2 4 <| .nil _ _) ?_
  refine aw_bl 4 31727 ?_
  refine aw_lp 63455 ?_
  refine al_round ?_
  refine aw_p 126911 (
    .a 1 4 <| .nil _ _) ?_
  refine aw_sq 253822 253823 ?_
  refine aw_tr 507644 ?_
  refine aw_sk ?_
  refine then_normal ?_
  refine aw_sq 507646 507647 ?_
  refine aw_bl 5 1015293 ?_
  refine aw_p 2030587 (
    .a 3 4 <| .nil _ _) ?_
  refine aw_p 4061175 (
    .a 2 4 <| .p (cS #[.tmp 40, .tmp 41] #[39, 39] [sV 2 R2.length, sV 1 R1.length] [2, 1] [(2, (pB R2)), (1, (pB R1))] (.bool true) (fits_ok R2 R1 (-1) (-1) zR2 fR2 zR1 fR1 F21) (.cons rS (.cons rS .nil)) ⟨rfl, bP, rfl, bP, trivial⟩ rF) <| .a 1 4 <| .nil _ _) ?_
  refine aw_fl 8122351 ?_
  refine aw_sk ?_
  refine block_normal ?_
  refine then_normal ?_
  refine aw_p1 (
    .a 2 4 <| .nil _ _) ?_
  refine then_normal ?_
  refine al_round ?_
  refine aw_p 126911 (
    .a 1 4 <| .nil _ _) ?_
  refine aw_sq 253822 253823 ?_
  refine aw_fl 507645 ?_
  refine aw_ex 4 ?_
  refine then_exit ?_
  refine then_exit ?_
  refine block_exit ?_
  refine block_normal ?_
  refine then_normal ?_
  refine aw_p1 (
    .a 2 4 <| .nil _ _) ?_
  refine then_normal ?_
  refine al_round ?_
  refine aw_p 495 (
    .a 1 4 <| .nil _ _) ?_
  refine aw_sq 990 991 ?_
  refine aw_tr 1980 ?_
  refine aw_sk ?_
  refine then_normal ?_
  refine aw_sq 1982 1983 ?_
  refine aw_bl 3 3965 ?_
  refine aw_p 7931 (
    .a 5 4 <| .nil _ _) ?_
  refine aw_p 15863 (
    .a 2 4 <|
    .p (does_val (v' := sV 0 2) (does_slice (t := 25) (x := .tmp 32) (lo := none) (hi := some (.tmp 33)) (k := 0) (off := 0) (n := 3) (c := 0) (z := 1) (l := 0) (h := 2) (m := 2) (b := ⟨[sV 1 R1.length, sV 2 R2.length, sV 3 R3.length], 39, true, 1⟩) (by kernel_rfl) (by kernel_rfl) (by kernel_rfl) (by kernel_rfl) (by kernel_rfl) (by kernel_rfl) (by kernel_rfl) (by kernel_rfl) (by decide) (by decide) (by decide) (by decide)) (by kernel_rfl)) <|
    .a 2 4 <| .nil _ _) ?_
  refine aw_bl 4 31727 ?_
  refine aw_lp 63455 ?_
  refine al_round ?_
  refine aw_p 126911 (
    .a 1 4 <| .nil _ _) ?_
  refine aw_sq 253822 253823 ?_
  refine aw_tr 507644 ?_
  refine aw_sk ?_
  refine then_normal ?_
  refine aw_sq 507646 507647 ?_
  refine aw_bl 5 1015293 ?_
  refine aw_p 2030587 (
    .a 3 4 <| .nil _ _) ?_
  refine aw_p 4061175 (
    .a 2 4 <| .p (cS #[.tmp 40, .tmp 41] #[39, 39] [sV 3 R3.length, sV 1 R1.length] [3, 1] [(3, (pB R3)), (1, (pB R1))] (.bool true) (fits_ok R3 R1 (-1) 1 zR3 fR3 zR1 fR1 F31) (.cons rS (.cons rS .nil)) ⟨rfl, bP, rfl, bP, trivial⟩ rF) <| .a 1 4 <| .nil _ _) ?_
  refine aw_fl 8122351 ?_
  refine aw_sk ?_
  refine block_normal ?_
  refine then_normal ?_
  refine aw_p1 (
    .a 2 4 <| .nil _ _) ?_
  refine then_normal ?_
  refine al_round ?_
  refine aw_p 126911 (
    .a 1 4 <| .nil _ _) ?_
  refine aw_sq 253822 253823 ?_
  refine aw_tr 507644 ?_
  refine aw_sk ?_
  refine then_normal ?_
  refine aw_sq 507646 507647 ?_
  refine aw_bl 5 1015293 ?_
  refine aw_p 2030587 (
    .a 3 4 <| .nil _ _) ?_
  refine aw_p 4061175 (
    .a 2 4 <| .p (cS #[.tmp 40, .tmp 41] #[39, 39] [sV 3 R3.length, sV 2 R2.length] [3, 2] [(3, (pB R3)), (2, (pB R2))] (.bool true) (fits_ok R3 R2 (-1) 1 zR3 fR3 zR2 fR2 F32) (.cons rS (.cons rS .nil)) ⟨rfl, bP, rfl, bP, trivial⟩ rF) <| .a 1 4 <| .nil _ _) ?_
  refine aw_fl 8122351 ?_
  refine aw_sk ?_
  refine block_normal ?_
  refine then_normal ?_
  refine aw_p1 (
    .a 2 4 <| .nil _ _) ?_
  refine then_normal ?_
  refine al_round ?_
  refine aw_p 126911 (
    .a 1 4 <| .nil _ _) ?_
  refine aw_sq 253822 253823 ?_
  refine aw_fl 507645 ?_
  refine aw_ex 4 ?_
  refine then_exit ?_
  refine then_exit ?_
  refine block_exit ?_
  refine block_normal ?_
  refine then_normal ?_
  refine aw_p1 (
    .a 2 4 <| .nil _ _) ?_
  refine then_normal ?_
  refine al_round ?_
  refine aw_p 495 (
    .a 1 4 <| .nil _ _) ?_
  refine aw_sq 990 991 ?_
  refine aw_fl 1981 ?_
  refine aw_ex 2 ?_
  refine then_exit ?_
  refine then_exit ?_
  refine block_exit ?_
  refine then_normal ?_
  refine aw_p 63 (
    .a 1 4 <| .nil _ _) ?_
  refine aw_rt ?_
  exact en_ret [.int .i64 0] (by kernel_rfl)
theorem adepth_os (R1 R2 R3 : List (Int × Int)) (zR1 : 1 ≤ R1.length ∧ R1.length ≤ 200) (fR1 : Sp.Few 1000 R1) (zR2 : 1 ≤ R2.length ∧ R2.length ≤ 200) (fR2 : Sp.Few 1000 R2) (zR3 : 1 ≤ R3.length ∧ R3.length ≤ 200) (fR3 : Sp.Few 1000 R3) (cR1 : Sp.chkF R1 = 0) (cR2 : Sp.chkF R2 = 0) (cR3 : Sp.chkF R3 = 0) (F21 : Sp.Fit R2 R1 (-1) (-1)) (F31 : Sp.Fit R3 R1 (-1) 1) (F32 : Sp.Fit R3 R2 (-1) 1) :
    AC Tryz.prog 27 4 ([sV 0 3]) [(0, ⟨[sV 1 R1.length, sV 2 R2.length, sV 3 R3.length], 39, true, 1⟩), (1, (pB R1)), (2, (pB R2)), (3, (pB R3))] (sV 4 3) [(0, ⟨[sV 1 R1.length, sV 2 R2.length, sV 3 R3.length], 39, true, 1⟩), (1, (pB R1)), (2, (pB R2)), (3, (pB R3)), (4, ⟨[.int .i64 1, .int .i64 1, .int .i64 0], 3, true, 1⟩)] := by
  refine ac_in Tryz.func27 (fun w0 W pin => ?_)
  refine aw_p 3 (
    .a 1 4 <| .nil _ _) ?_
  refine aw_sq 6 7 ?_
  refine aw_p 13 (
    .a 1 4 <|
    .p (cS #[.tmp 8] #[25] [sV 0 3] [0, 1, 2, 3] [(0, ⟨[sV 1 R1.length, sV 2 R2.length, sV 3 R3.length], 39, true, 1⟩), (1, (pB R1)), (2, (pB R2)), (3, (pB R3))] (.int .i64 0) (acheck_os R1 R2 R3 zR1 fR1 zR2 fR2 zR3 fR3 cR1 cR2 cR3 F21 F31 F32) (.cons rS .nil) ⟨rfl, ⟨rfl, rfl, rfl, (.cons rS (.cons rS (.cons rS .nil)))⟩, rfl, bP, rfl, bP, rfl, bP, trivial⟩ rF) <|
    .a 1 4 <| .nil _ _) ?_
  refine aw_fl 27 ?_
  refine aw_sk ?_
  refine then_normal ?_
  refine aw_p 15 (
    .a 2 4 <| .p (does_mk (kl := .i64) (kc := .i64) (n' := 3) (c' := 3) 4 3 1 8 3 3 (.int .i64 0) [.int .i64 0, .int .i64 0, .int .i64 0] (by kernel_rfl) (by kernel_rfl) (by kernel_rfl) (by kernel_rfl) (by decide) (by decide) (by decide) (by decide) (by decide)) <| .a 1 5 <| .nil _ _) ?_
  refine aw_sq 30 31 ?_
  refine aw_p 61 (
    .a 3 5 <| .nil _ _) ?_
  refine aw_bl 0 123 ?_
  refine aw_lp 247 ?_
  refine al_round ?_
  refine aw_p 495 (
    .a 1 5 <| .nil _ _) ?_
  refine aw_sq 990 991 ?_
  refine aw_tr 1980 ?_
  refine aw_sk ?_
  refine then_normal ?_
  refine aw_sq 1982 1983 ?_
  refine aw_bl 1 3965 ?_
  refine aw_p 7931 (
    .a 5 5 <| .nil _ _) ?_
  refine aw_p 15863 (
    .a 3 5 <| .nil _ _) ?_
  refine aw_bl 2 31727 ?_
  refine aw_lp 63455 ?_
  refine al_round ?_
  refine aw_p 126911 (
    .a 1 5 <| .nil _ _) ?_
  refine aw_sq 253822 253823 ?_
  refine aw_tr 507644 ?_
  refine aw_sk ?_
  refine then_normal ?_
  refine aw_sq 507646 507647 ?_
  refine aw_bl 3 1015293 ?_
  refine aw_p 2030587 (
    .a 5 5 <| .nil _ _) ?_
  refine aw_p 4061175 (
    .a 9 5 <| .nil _ _) ?_
  refine aw_fl 8122351 ?_
  refine aw_sk ?_
  refine block_normal ?_
  refine then_normal ?_
  refine aw_p1 (
    .a 2 5 <| .nil _ _) ?_
  refine then_normal ?_
  refine al_round ?_
  refine aw_p 126911 (
    .a 1 5 <| .nil _ _) ?_
  refine aw_sq 253822 253823 ?_
  refine aw_tr 507644 ?_
  refine aw_sk ?_
  refine then_normal ?_
  refine aw_sq 507646 507647 ?_
  refine aw_bl 3 1015293 ?_
  refine aw_p 2030587 (
    .a 5 5 <| .nil _ _) ?_
  refine aw_p 4061175 (
    .a 6 5 <|
    .p (cS (m := 2) (args0 := [sV 0 R1.length, .int .i64 0, sV 1 R2.length]) (pre0 := [(0, (pB R1)), (1, (pB R2))]) (v0 := .int .i64 (-1)) #[.tmp 32, .const (.int .i64 0), .tmp 33] #[39, 3, 39] [sV 1 R1.length, .int .i64 0, sV 2 R2.length] [1, 2] [(1, (pB R1)), (2, (pB R2))] (.int .i64 (-1)) ((by have h := side_ok R1 R2 zR1 fR1 zR2 fR2 0 (by omega); rw [Sp.side_at F21.2.2 (by omega)] at h; exact h)) (.cons rS (.cons rF (.cons rS .nil))) ⟨rfl, bP, rfl, bP, trivial⟩ rF) <|
    .a 2 5 <| .nil _ _) ?_
  refine aw_fl 8122351 ?_
  refine aw_sk ?_
  refine block_normal ?_
  refine then_normal ?_
  refine aw_p1 (
    .a 2 5 <| .nil _ _) ?_
  refine then_normal ?_
  refine al_round ?_
  refine aw_p 126911 (
    .a 1 5 <| .nil _ _) ?_
  refine aw_sq 253822 253823 ?_
  refine aw_tr 507644 ?_
  refine aw_sk ?_
  refine then_normal ?_
  refine aw_sq 507646 507647 ?_
  refine aw_bl 3 1015293 ?_
  refine aw_p 2030587 (
    .a 5 5 <| .nil _ _) ?_
  refine aw_p 4061175 (
    .a 6 5 <|
    .p (cS (m := 2) (args0 := [sV 0 R1.length, .int .i64 0, sV 1 R3.length]) (pre0 := [(0, (pB R1)), (1, (pB R3))]) (v0 := .int .i64 1) #[.tmp 32, .const (.int .i64 0), .tmp 33] #[39, 3, 39] [sV 1 R1.length, .int .i64 0, sV 3 R3.length] [1, 3] [(1, (pB R1)), (3, (pB R3))] (.int .i64 1) ((by have h := side_ok R1 R3 zR1 fR1 zR3 fR3 0 (by omega); rw [Sp.side_at F31.2.2 (by omega)] at h; exact h)) (.cons rS (.cons rF (.cons rS .nil))) ⟨rfl, bP, rfl, bP, trivial⟩ rF) <|
    .a 2 5 <| .nil _ _) ?_
  refine aw_tr 8122350 ?_
  refine aw_p1 (
    .a 7 5 <| .nil _ _) ?_
  refine block_normal ?_
  refine then_normal ?_
  refine aw_p1 (
    .a 2 5 <| .nil _ _) ?_
  refine then_normal ?_
  refine al_round ?_
  refine aw_p 126911 (
    .a 1 5 <| .nil _ _) ?_
  refine aw_sq 253822 253823 ?_
  refine aw_fl 507645 ?_
  refine aw_ex 2 ?_
  refine then_exit ?_
  refine then_exit ?_
  refine block_exit ?_
  refine block_normal ?_
  refine then_normal ?_
  refine aw_p1 (
    .a 2 5 <| .nil _ _) ?_
  refine then_normal ?_
  refine al_round ?_
  refine aw_p 495 (
    .a 1 5 <| .nil _ _) ?_
  refine aw_sq 990 991 ?_
  refine aw_tr 1980 ?_
  refine aw_sk ?_
  refine then_normal ?_
  refine aw_sq 1982 1983 ?_
  refine aw_bl 1 3965 ?_
  refine aw_p 7931 (
    .a 5 5 <| .nil _ _) ?_
  refine aw_p 15863 (
    .a 3 5 <| .nil _ _) ?_
  refine aw_bl 2 31727 ?_
  refine aw_lp 63455 ?_
  refine al_round ?_
  refine aw_p 126911 (
    .a 1 5 <| .nil _ _) ?_
  refine aw_sq 253822 253823 ?_
  refine aw_tr 507644 ?_
  refine aw_sk ?_
  refine then_normal ?_
  refine aw_sq 507646 507647 ?_
  refine aw_bl 3 1015293 ?_
  refine aw_p 2030587 (
    .a 5 5 <| .nil _ _) ?_
  refine aw_p 4061175 (
    .a 6 5 <|
    .p (cS (m := 2) (args0 := [sV 0 R2.length, .int .i64 0, sV 1 R1.length]) (pre0 := [(0, (pB R2)), (1, (pB R1))]) (v0 := .int .i64 (-1)) #[.tmp 32, .const (.int .i64 0), .tmp 33] #[39, 3, 39] [sV 2 R2.length, .int .i64 0, sV 1 R1.length] [2, 1] [(2, (pB R2)), (1, (pB R1))] (.int .i64 (-1)) ((by have h := side_ok R2 R1 zR2 fR2 zR1 fR1 0 (by omega); rw [Sp.side_at F21.2.1 (by omega)] at h; exact h)) (.cons rS (.cons rF (.cons rS .nil))) ⟨rfl, bP, rfl, bP, trivial⟩ rF) <|
    .a 2 5 <| .nil _ _) ?_
  refine aw_fl 8122351 ?_
  refine aw_sk ?_
  refine block_normal ?_
  refine then_normal ?_
  refine aw_p1 (
    .a 2 5 <| .nil _ _) ?_
  refine then_normal ?_
  refine al_round ?_
  refine aw_p 126911 (
    .a 1 5 <| .nil _ _) ?_
  refine aw_sq 253822 253823 ?_
  refine aw_tr 507644 ?_
  refine aw_sk ?_
  refine then_normal ?_
  refine aw_sq 507646 507647 ?_
  refine aw_bl 3 1015293 ?_
  refine aw_p 2030587 (
    .a 5 5 <| .nil _ _) ?_
  refine aw_p 4061175 (
    .a 9 5 <| .nil _ _) ?_
  refine aw_fl 8122351 ?_
  refine aw_sk ?_
  refine block_normal ?_
  refine then_normal ?_
  refine aw_p1 (
    .a 2 5 <| .nil _ _) ?_
  refine then_normal ?_
  refine al_round ?_
  refine aw_p 126911 (
    .a 1 5 <| .nil _ _) ?_
  refine aw_sq 253822 253823 ?_
  refine aw_tr 507644 ?_
  refine aw_sk ?_
  refine then_normal ?_
  refine aw_sq 507646 507647 ?_
  refine aw_bl 3 1015293 ?_
  refine aw_p 2030587 (
    .a 5 5 <| .nil _ _) ?_
  refine aw_p 4061175 (
    .a 6 5 <|
    .p (cS (m := 2) (args0 := [sV 0 R2.length, .int .i64 0, sV 1 R3.length]) (pre0 := [(0, (pB R2)), (1, (pB R3))]) (v0 := .int .i64 1) #[.tmp 32, .const (.int .i64 0), .tmp 33] #[39, 3, 39] [sV 2 R2.length, .int .i64 0, sV 3 R3.length] [2, 3] [(2, (pB R2)), (3, (pB R3))] (.int .i64 1) ((by have h := side_ok R2 R3 zR2 fR2 zR3 fR3 0 (by omega); rw [Sp.side_at F32.2.2 (by omega)] at h; exact h)) (.cons rS (.cons rF (.cons rS .nil))) ⟨rfl, bP, rfl, bP, trivial⟩ rF) <|
    .a 2 5 <| .nil _ _) ?_
  refine aw_tr 8122350 ?_
  refine aw_p1 (
    .a 7 5 <| .nil _ _) ?_
  refine block_normal ?_
  refine then_normal ?_
  refine aw_p1 (
    .a 2 5 <| .nil _ _) ?_
  refine then_normal ?_
  refine al_round ?_
  refine aw_p 126911 (
    .a 1 5 <| .nil _ _) ?_
  refine aw_sq 253822 253823 ?_
  refine aw_fl 507645 ?_
  refine aw_ex 2 ?_
  refine then_exit ?_
  refine then_exit ?_
  refine block_exit ?_
  refine block_normal ?_
  refine then_normal ?_
  refine aw_p1 (
    .a 2 5 <| .nil _ _) ?_
  refine then_normal ?_
  refine al_round ?_
  refine aw_p 495 (
    .a 1 5 <| .nil _ _) ?_
  refine aw_sq 990 991 ?_
  refine aw_tr 1980 ?_
  refine aw_sk ?_
  refine then_normal ?_
  refine aw_sq 1982 1983 ?_
  refine aw_bl 1 3965 ?_
  refine aw_p 7931 (
    .a 5 5 <| .nil _ _) ?_
  refine aw_p 15863 (
    .a 3 5 <| .nil _ _) ?_
  refine aw_bl 2 31727 ?_
  refine aw_lp 63455 ?_
  refine al_round ?_
  refine aw_p 126911 (
    .a 1 5 <| .nil _ _) ?_
  refine aw_sq 253822 253823 ?_
  refine aw_tr 507644 ?_
  refine aw_sk ?_
  refine then_normal ?_
  refine aw_sq 507646 507647 ?_
  refine aw_bl 3 1015293 ?_
  refine aw_p 2030587 (
    .a 5 5 <| .nil _ _) ?_
  refine aw_p 4061175 (
    .a 6 5 <|
    .p (cS (m := 2) (args0 := [sV 0 R3.length, .int .i64 0, sV 1 R1.length]) (pre0 := [(0, (pB R3)), (1, (pB R1))]) (v0 := .int .i64 (-1)) #[.tmp 32, .const (.int .i64 0), .tmp 33] #[39, 3, 39] [sV 3 R3.length, .int .i64 0, sV 1 R1.length] [3, 1] [(3, (pB R3)), (1, (pB R1))] (.int .i64 (-1)) ((by have h := side_ok R3 R1 zR3 fR3 zR1 fR1 0 (by omega); rw [Sp.side_at F31.2.1 (by omega)] at h; exact h)) (.cons rS (.cons rF (.cons rS .nil))) ⟨rfl, bP, rfl, bP, trivial⟩ rF) <|
    .a 2 5 <| .nil _ _) ?_
  refine aw_fl 8122351 ?_
  refine aw_sk ?_
  refine block_normal ?_
  refine then_normal ?_
  refine aw_p1 (
    .a 2 5 <| .nil _ _) ?_
  refine then_normal ?_
  refine al_round ?_
  refine aw_p 126911 (
    .a 1 5 <| .nil _ _) ?_
  refine aw_sq 253822 253823 ?_
  refine aw_tr 507644 ?_
  refine aw_sk ?_
  refine then_normal ?_
  refine aw_sq 507646 507647 ?_
  refine aw_bl 3 1015293 ?_
  refine aw_p 2030587 (
    .a 5 5 <| .nil _ _) ?_
  refine aw_p 4061175 (
    .a 6 5 <|
    .p (cS (m := 2) (args0 := [sV 0 R3.length, .int .i64 0, sV 1 R2.length]) (pre0 := [(0, (pB R3)), (1, (pB R2))]) (v0 := .int .i64 (-1)) #[.tmp 32, .const (.int .i64 0), .tmp 33] #[39, 3, 39] [sV 3 R3.length, .int .i64 0, sV 2 R2.length] [3, 2] [(3, (pB R3)), (2, (pB R2))] (.int .i64 (-1)) ((by have h := side_ok R3 R2 zR3 fR3 zR2 fR2 0 (by omega); rw [Sp.side_at F32.2.1 (by omega)] at h; exact h)) (.cons rS (.cons rF (.cons rS .nil))) ⟨rfl, bP, rfl, bP, trivial⟩ rF) <|
    .a 2 5 <| .nil _ _) ?_
  refine aw_fl 8122351 ?_
  refine aw_sk ?_
  refine block_normal ?_
  refine then_normal ?_
  refine aw_p1 (
    .a 2 5 <| .nil _ _) ?_
  refine then_normal ?_
  refine al_round ?_
  refine aw_p 126911 (
    .a 1 5 <| .nil _ _) ?_
  refine aw_sq 253822 253823 ?_
  refine aw_tr 507644 ?_
  refine aw_sk ?_
  refine then_normal ?_
  refine aw_sq 507646 507647 ?_
  refine aw_bl 3 1015293 ?_
  refine aw_p 2030587 (
    .a 5 5 <| .nil _ _) ?_
  refine aw_p 4061175 (
    .a 9 5 <| .nil _ _) ?_
  refine aw_fl 8122351 ?_
  refine aw_sk ?_
  refine block_normal ?_
  refine then_normal ?_
  refine aw_p1 (
    .a 2 5 <| .nil _ _) ?_
  refine then_normal ?_
  refine al_round ?_
  refine aw_p 126911 (
    .a 1 5 <| .nil _ _) ?_
  refine aw_sq 253822 253823 ?_
  refine aw_fl 507645 ?_
  refine aw_ex 2 ?_
  refine then_exit ?_
  refine then_exit ?_
  refine block_exit ?_
  refine block_normal ?_
  refine then_normal ?_
  refine aw_p1 (
    .a 2 5 <| .nil _ _) ?_
  refine then_normal ?_
  refine al_round ?_
  refine aw_p 495 (
    .a 1 5 <| .nil _ _) ?_
  refine aw_sq 990 991 ?_
  refine aw_fl 1981 ?_
  refine aw_ex 0 ?_
  refine then_exit ?_
  refine then_exit ?_
  refine block_exit ?_
  refine then_normal ?_
  refine aw_p 63 (
    .a 2 5 <| .nil _ _) ?_
  refine aw_rt ?_
  exact en_ret [sV 4 3] (by kernel_rfl)
theorem atwice_os (R1 R2 R3 : List (Int × Int)) (zR1 : 1 ≤ R1.length ∧ R1.length ≤ 200) (fR1 : Sp.Few 1000 R1) (zR2 : 1 ≤ R2.length ∧ R2.length ≤ 200) (fR2 : Sp.Few 1000 R2) (zR3 : 1 ≤ R3.length ∧ R3.length ≤ 200) (fR3 : Sp.Few 1000 R3) (cR1 : Sp.chkF R1 = 0) (cR2 : Sp.chkF R2 = 0) (cR3 : Sp.chkF R3 = 0) (F21 : Sp.Fit R2 R1 (-1) (-1)) (F31 : Sp.Fit R3 R1 (-1) 1) (F32 : Sp.Fit R3 R2 (-1) 1) (a1 a2 a3 : Int) (t1 : Sp.twF R1 1 0 = a1) (b1 : -100000 ≤ a1 ∧ a1 ≤ 100000) (t2 : Sp.twF R2 1 0 = a2) (b2 : -100000 ≤ a2 ∧ a2 ≤ 100000) (t3 : Sp.twF R3 1 0 = a3) (b3 : -100000 ≤ a3 ∧ a3 ≤ 100000) :
    AC Tryz.prog 10 4 ([sV 0 3]) [(0, ⟨[sV 1 R1.length, sV 2 R2.length, sV 3 R3.length], 39, true, 1⟩), (1, (pB R1)), (2, (pB R2)), (3, (pB R3))] (.int .i64 (((0 + (0 - (Sp.mx a1 (0 - a1)))) + (0 - (Sp.mx a2 (0 - a2)))) + (Sp.mx a3 (0 - a3)))) [(0, ⟨[sV 1 R1.length, sV 2 R2.length, sV 3 R3.length], 39, true, 1⟩), (1, (pB R1)), (2, (pB R2)), (3, (pB R3))] := by
  have m1 : 0 ≤ Sp.mx a1 (0 - a1) ∧ Sp.mx a1 (0 - a1) ≤ 100000 := (by unfold Sp.mx; split <;> omega); have m2 : 0 ≤ Sp.mx a2 (0 - a2) ∧ Sp.mx a2 (0 - a2) ≤ 100000 := (by unfold Sp.mx; split <;> omega); have m3 : 0 ≤ Sp.mx a3 (0 - a3) ∧ Sp.mx a3 (0 - a3) ≤ 100000 := (by unfold Sp.mx; split <;> omega)
  refine ac_in Tryz.func10 (fun w0 W pin => ?_)
  refine aw_p 3 (
    .a 1 4 <| .nil _ _) ?_
  refine aw_p 7 (
    .a 1 4 <| .nil _ _) ?_
  refine aw_sq 14 15 ?_
  refine aw_p 29 (
    .a 1 4 <|
    .p (cF #[.tmp 7] #[25] [sV 0 3] 1 [0, 1, 2, 3, 4] [(0, ⟨[sV 1 R1.length, sV 2 R2.length, sV 3 R3.length], 39, true, 1⟩), (1, (pB R1)), (2, (pB R2)), (3, (pB R3))] [(0, ⟨[sV 1 R1.length, sV 2 R2.length, sV 3 R3.length], 39, true, 1⟩), (1, (pB R1)), (2, (pB R2)), (3, (pB R3)), (4, ⟨[.int .i64 1, .int .i64 1, .int .i64 0], 3, true, 1⟩)] (sV 4 3) (adepth_os R1 R2 R3 zR1 fR1 zR2 fR2 zR3 fR3 cR1 cR2 cR3 F21 F31 F32) (.cons rS .nil) ⟨rfl, ⟨rfl, rfl, rfl, (.cons rS (.cons rS (.cons rS .nil)))⟩, rfl, bP, rfl, bP, rfl, bP, trivial⟩ ⟨rfl, ⟨rfl, rfl, rfl, (.cons rS (.cons rS (.cons rS .nil)))⟩, rfl, bP, rfl, bP, rfl, bP, rfl, ⟨rfl, rfl, rfl, (.flats (by kernel_rfl))⟩, trivial⟩ rS) <|
    .a 2 5 <| .nil _ _) ?_
  refine aw_bl 0 59 ?_
  refine aw_lp 119 ?_
  refine al_round ?_
  refine aw_p 239 (
    .a 1 5 <| .nil _ _) ?_
  refine aw_sq 478 479 ?_
  refine aw_tr 956 ?_
  refine aw_sk ?_
  refine then_normal ?_
  refine aw_sq 958 959 ?_
  refine aw_bl 1 1917 ?_
  refine aw_p 3835 (
    .a 5 5 <| .nil _ _) ?_
  refine aw_p 7671 (
    .a 4 5 <| .p (cS (m := 1) (args0 := [sV 0 R1.length]) (pre0 := [(0, (pB R1))]) (v0 := .int .i64 a1) #[.tmp 18] #[39] [sV 1 R1.length] [1] [(1, (pB R1))] (.int .i64 a1) ((by have h := twicen_own R1 R1.length rfl (by omega); rw [t1] at h; exact h)) (.cons rS .nil) ⟨rfl, bP, trivial⟩ rF) <| .a 1 5 <| .nil _ _) ?_
  refine aw_p 15343 (
    .a 2 5 <| .p (does_i (0 - a1) (wrap_i64 (by omega) (by omega)) .i64) <| .a 2 5 <| .nil _ _) ?_
  refine aw_sq 30686 30687 ?_
  refine aw_p 61373 (
    .a 3 5 <| .nil _ _) ?_
  refine aw_tr 122746 ?_
  refine aw_p1 (
    .a 1 5 <| .p (does_i (0 - (Sp.mx a1 (0 - a1))) (wrap_i64 (by omega) (by omega)) .i64) <| .a 1 5 <| .nil _ _) ?_
  refine then_normal ?_
  refine aw_p1 (
    .a 2 5 <| .p (does_i (0 + (0 - (Sp.mx a1 (0 - a1)))) (wrap_i64 (by omega) (by omega)) .i64) <| .a 1 5 <| .nil _ _) ?_
  refine block_normal ?_
  refine then_normal ?_
  refine aw_p1 (
    .a 2 5 <| .nil _ _) ?_
  refine then_normal ?_
  refine al_round ?_
  refine aw_p 239 (
    .a 1 5 <| .nil _ _) ?_
  refine aw_sq 478 479 ?_
  refine aw_tr 956 ?_
  refine aw_sk ?_
  refine then_normal ?_
  refine aw_sq 958 959 ?_
  refine aw_bl 1 1917 ?_
  refine aw_p 3835 (
    .a 5 5 <| .nil _ _) ?_
  refine aw_p 7671 (
    .a 4 5 <| .p (cS (m := 1) (args0 := [sV 0 R2.length]) (pre0 := [(0, (pB R2))]) (v0 := .int .i64 a2) #[.tmp 18] #[39] [sV 2 R2.length] [2] [(2, (pB R2))] (.int .i64 a2) ((by have h := twicen_own R2 R2.length rfl (by omega); rw [t2] at h; exact h)) (.cons rS .nil) ⟨rfl, bP, trivial⟩ rF) <| .a 1 5 <| .nil _ _) ?_
  refine aw_p 15343 (
    .a 2 5 <| .p (does_i (0 - a2) (wrap_i64 (by omega) (by omega)) .i64) <| .a 2 5 <| .nil _ _) ?_
  refine aw_sq 30686 30687 ?_
  refine aw_p 61373 (
    .a 3 5 <| .nil _ _) ?_
  refine aw_tr 122746 ?_
  refine aw_p1 (
    .a 1 5 <| .p (does_i (0 - (Sp.mx a2 (0 - a2))) (wrap_i64 (by omega) (by omega)) .i64) <| .a 1 5 <| .nil _ _) ?_
  refine then_normal ?_
  refine aw_p1 (
    .a 2 5 <| .p (does_i ((0 + (0 - (Sp.mx a1 (0 - a1)))) + (0 - (Sp.mx a2 (0 - a2)))) (wrap_i64 (by omega) (by omega)) .i64) <| .a 1 5 <| .nil _ _) ?_
  refine block_normal ?_
  refine then_normal ?_
  refine aw_p1 (
    .a 2 5 <| .nil _ _) ?_
  refine then_normal ?_
  refine al_round ?_
  refine aw_p 239 (
    .a 1 5 <| .nil _ _) ?_
  refine aw_sq 478 479 ?_
  refine aw_tr 956 ?_
  refine aw_sk ?_
  refine then_normal ?_
  refine aw_sq 958 959 ?_
  refine aw_bl 1 1917 ?_
  refine aw_p 3835 (
    .a 5 5 <| .nil _ _) ?_
  refine aw_p 7671 (
    .a 4 5 <| .p (cS (m := 1) (args0 := [sV 0 R3.length]) (pre0 := [(0, (pB R3))]) (v0 := .int .i64 a3) #[.tmp 18] #[39] [sV 3 R3.length] [3] [(3, (pB R3))] (.int .i64 a3) ((by have h := twicen_own R3 R3.length rfl (by omega); rw [t3] at h; exact h)) (.cons rS .nil) ⟨rfl, bP, trivial⟩ rF) <| .a 1 5 <| .nil _ _) ?_
  refine aw_p 15343 (
    .a 2 5 <| .p (does_i (0 - a3) (wrap_i64 (by omega) (by omega)) .i64) <| .a 2 5 <| .nil _ _) ?_
  refine aw_sq 30686 30687 ?_
  refine aw_p 61373 (
    .a 3 5 <| .nil _ _) ?_
  refine aw_fl 122747 ?_
  refine aw_sk ?_
  refine then_normal ?_
  refine aw_p1 (
    .a 2 5 <| .p (does_i (((0 + (0 - (Sp.mx a1 (0 - a1)))) + (0 - (Sp.mx a2 (0 - a2)))) + (Sp.mx a3 (0 - a3))) (wrap_i64 (by omega) (by omega)) .i64) <| .a 1 5 <| .nil _ _) ?_
  refine block_normal ?_
  refine then_normal ?_
  refine aw_p1 (
    .a 2 5 <| .nil _ _) ?_
  refine then_normal ?_
  refine al_round ?_
  refine aw_p 239 (
    .a 1 5 <| .nil _ _) ?_
  refine aw_sq 478 479 ?_
  refine aw_fl 957 ?_
  refine aw_ex 0 ?_
  refine then_exit ?_
  refine then_exit ?_
  refine block_exit ?_
  refine then_normal ?_
  refine aw_p 31 (
    .a 2 5 <| .nil _ _) ?_
  refine aw_rt ?_
  exact en_ret [.int .i64 (((0 + (0 - (Sp.mx a1 (0 - a1)))) + (0 - (Sp.mx a2 (0 - a2)))) + (Sp.mx a3 (0 - a3)))] (by kernel_rfl)
end Go.Proofs.YtndkhgfecnbmnaaGreat.Am

namespace Go.Proofs.YtndkhgfecnbmnaaGreat.Am
open Go Go.Proofs
set_option maxRecDepth 100000
set_option maxHeartbeats 4000000
set_option linter.unusedVariables false
set_option linter.unusedSimpArgs false
theorem areasSame_3 (xs : List Int) (R1 R2 R3 : List (Int × Int)) (zR1 : 1 ≤ R1.length ∧ R1.length ≤ 200) (fR1 : Sp.Few 1000 R1) (zR2 : 1 ≤ R2.length ∧ R2.length ≤ 200) (fR2 : Sp.Few 1000 R2) (zR3 : 1 ≤ R3.length ∧ R3.length ≤ 200) (fR3 : Sp.Few 1000 R3) (cR1 : Sp.chkF R1 = 0) (cR2 : Sp.chkF R2 = 0) (cR3 : Sp.chkF R3 = 0) (F21 : Sp.Fit R2 R1 (-1) (-1)) (F31 : Sp.Fit R3 R1 (-1) 1) (F32 : Sp.Fit R3 R2 (-1) 1) (hm : AC Tryz.prog 5 1 [.slice (some ⟨0, 0, none⟩) xs.length 0] [(0, ⟨(xs.map i64v), 3, false, 1⟩)] (.slice (some ⟨1, 0, none⟩) 2 0) [(1, ⟨[sV 2 R1.length, sV 3 R2.length], 39, true, 1⟩), (2, (pB R1)), (3, (pB R2))]) (hn : AC Tryz.prog 7 3 [.slice (some ⟨0, 0, none⟩) 2 0] [(0, ⟨[sV 1 R1.length, sV 2 R2.length], 39, true, 1⟩), (1, (pB R1)), (2, (pB R2))] (.slice (some ⟨3, 0, none⟩) 2 0) [(0, ⟨[sV 1 R1.length, sV 2 R2.length], 39, true, 1⟩), (1, (pB R1)), (2, (pB R2)), (3, ⟨[sV 4 R1.length, sV 5 R2.length], 39, true, 1⟩), (4, (pB R1)), (5, (pB R2))]) (x px py : Int) (hx : AC Tryz.prog 6 0 [.int .i64 x] [] (.agg #[.int .i64 px, .int .i64 py]) []) (bpx : -40 ≤ px) (cpx : px ≤ 40) (bpy : -40 ≤ py) (cpy : py ≤ 40) (lx ly ux uy : Int) (l0 : -900 ≤ lx ∧ lx ≤ 900) (l1 : -900 ≤ ly ∧ ly ≤ 900) (l2 : -900 ≤ ux ∧ ux ≤ 900) (l3 : -900 ≤ uy ∧ uy ≤ 900) (hb : Sp.bxr (R1 ++ R2) (R1 ++ R2).length = (lx, ly, ux, uy)) (hA : Sp.rct (lx - 2) (ly - 2) (ux + 2) (uy + 2) = R3) (a1 a2 a3 : Int) (t1 : Sp.twF R1 1 0 = a1) (b1 : -100000 ≤ a1 ∧ a1 ≤ 100000) (t2 : Sp.twF R2 1 0 = a2) (b2 : -100000 ≤ a2 ∧ a2 ≤ 100000) (t3 : Sp.twF R3 1 0 = a3) (b3 : -100000 ≤ a3 ∧ a3 ≤ 100000) (ap : 0 ≤ a3) (hq : Sp.hasF R3 (Sp.lim 1048576 px) (Sp.lim 1048576 py) 0 (-1) = 1 ∨ ∀ z ∈ [Sp.hasF R1 (Sp.lim 1048576 px) (Sp.lim 1048576 py) 0 (-1), Sp.hasF R2 (Sp.lim 1048576 px) (Sp.lim 1048576 py) 0 (-1)], z = -1) :
    AC Tryz.prog 3 1 ([sV 0 xs.length, .int .i64 x]) [(0, ⟨(xs.map i64v), 3, false, 1⟩)] (.bool true) [] := by
  have m1 : 0 ≤ Sp.mx a1 (0 - a1) ∧ Sp.mx a1 (0 - a1) ≤ 100000 := (by unfold Sp.mx; split <;> omega); have m2 : 0 ≤ Sp.mx a2 (0 - a2) ∧ Sp.mx a2 (0 - a2) ≤ 100000 := (by unfold Sp.mx; split <;> omega); have m3 : 0 ≤ Sp.mx a3 (0 - a3) ∧ Sp.mx a3 (0 - a3) ≤ 100000 := (by unfold Sp.mx; split <;> omega); have q0 := Sp.ahF_bd [Sp.hasF R1 (Sp.lim 1048576 px) (Sp.lim 1048576 py) 0 (-1), Sp.hasF R2 (Sp.lim 1048576 px) (Sp.lim 1048576 py) 0 (-1)]; have q1 := Sp.ahF_bd [Sp.hasF R1 (Sp.lim 1048576 px) (Sp.lim 1048576 py) 0 (-1), Sp.hasF R2 (Sp.lim 1048576 px) (Sp.lim 1048576 py) 0 (-1), Sp.hasF R3 (Sp.lim 1048576 px) (Sp.lim 1048576 py) 0 (-1)]
  refine ac_in Tryz.func3 (fun w0 W pin => ?_)
  refine aw_p 3 (
    .a 1 1 <| .nil _ _) ?_
  refine aw_sq 6 7 ?_
  refine aw_p 13 (
    .p (does_c (h6begun_ok)) <| .a 1 1 <| .nil _ _) ?_
  refine aw_fl 27 ?_
  refine aw_sk ?_
  refine then_normal ?_
  refine aw_p 15 (
    .a 1 1 <|
    .p (cF #[.tmp 16] #[22] [sV 0 xs.length] 3 [0, 1, 2, 3] [(0, ⟨(xs.map i64v), 3, false, 1⟩)] [(1, ⟨[sV 2 R1.length, sV 3 R2.length], 39, true, 1⟩), (2, (pB R1)), (3, (pB R2))] (sV 1 2) (hm) (.cons rS .nil) ⟨rfl, ⟨rfl, rfl, rfl, (.flats (flats_map (fun _ => rfl) _))⟩, trivial⟩ ⟨rfl, ⟨rfl, rfl, rfl, (.cons rS (.cons rS .nil))⟩, rfl, bP, rfl, bP, trivial⟩ rS) <|
    .a 1 4 <| .p (does_c (hx)) <| .a 3 4 <| .nil _ _) ?_
  refine aw_p 31 (
    .a 1 5 <|
    .p (cF #[.tmp 20] #[25] [sV 1 2] 3 [1, 2, 3, 5, 6, 7] [(1, ⟨[sV 2 R1.length, sV 3 R2.length], 39, true, 1⟩), (2, (pB R1)), (3, (pB R2))] [(1, ⟨[sV 2 R1.length, sV 3 R2.length], 39, true, 1⟩), (2, (pB R1)), (3, (pB R2)), (5, ⟨[sV 6 R1.length, sV 7 R2.length], 39, true, 1⟩), (6, (pB R1)), (7, (pB R2))] (sV 5 2) (hn) (.cons rS .nil) ⟨rfl, ⟨rfl, rfl, rfl, (.cons rS (.cons rS .nil))⟩, rfl, bP, rfl, bP, trivial⟩ ⟨rfl, ⟨rfl, rfl, rfl, (.cons rS (.cons rS .nil))⟩, rfl, bP, rfl, bP, rfl, ⟨rfl, rfl, rfl, (.cons rS (.cons rS .nil))⟩, rfl, bP, rfl, bP, trivial⟩ rS) <|
    .a 1 8 <| .nil _ _) ?_
  refine aw_sq 62 63 ?_
  refine aw_d 125 (
    .a 1 8 <| .p (cS #[.tmp 22] #[25] [sV 1 2] [1, 2, 3] [(1, ⟨[sV 2 R1.length, sV 3 R2.length], 39, true, 1⟩), (2, (pB R1)), (3, (pB R2))] (.int .i64 0) (acheck_s2 R1 R2 zR1 fR1 zR2 fR2 cR1 cR2 F21) (.cons rS .nil) ⟨rfl, ⟨rfl, rfl, rfl, (.cons rS (.cons rS .nil))⟩, rfl, bP, rfl, bP, trivial⟩ rF) <|
    .a 11 8 <|
    .p (cS #[.tmp 33, .tmp 34] #[25, 28] [sV 5 2, .agg #[.int .i64 px, .int .i64 py]] [5, 6, 7] [(5, ⟨[sV 6 R1.length, sV 7 R2.length], 39, true, 1⟩), (6, (pB R1)), (7, (pB R2))] (.int .i64 (Sp.ahF [Sp.hasF R1 (Sp.lim 1048576 px) (Sp.lim 1048576 py) 0 (-1), Sp.hasF R2 (Sp.lim 1048576 px) (Sp.lim 1048576 py) 0 (-1)] (-1))) (ahas_2 R1 R2 zR1 fR1 zR2 fR2 px py) (.cons rS (.cons rF .nil)) ⟨rfl, ⟨rfl, rfl, rfl, (.cons rS (.cons rS .nil))⟩, rfl, bP, rfl, bP, trivial⟩ rF) <|
    .a 2 8 <|
    .p (cS #[.tmp 36, .tmp 37] #[25, 28] [sV 1 2, .agg #[.int .i64 px, .int .i64 py]] [1, 2, 3] [(1, ⟨[sV 2 R1.length, sV 3 R2.length], 39, true, 1⟩), (2, (pB R1)), (3, (pB R2))] (.int .i64 (Sp.ahF [Sp.hasF R1 (Sp.lim 1048576 px) (Sp.lim 1048576 py) 0 (-1), Sp.hasF R2 (Sp.lim 1048576 px) (Sp.lim 1048576 py) 0 (-1)] (-1))) (ahas_2 R1 R2 zR1 fR1 zR2 fR2 px py) (.cons rS (.cons rF .nil)) ⟨rfl, ⟨rfl, rfl, rfl, (.cons rS (.cons rS .nil))⟩, rfl, bP, rfl, bP, trivial⟩ rF) <|
    .p (does_b false ((show ((Sp.ahF [Sp.hasF R1 (Sp.lim 1048576 px) (Sp.lim 1048576 py) 0 (-1), Sp.hasF R2 (Sp.lim 1048576 px) (Sp.lim 1048576 py) 0 (-1)] (-1)) != (Sp.ahF [Sp.hasF R1 (Sp.lim 1048576 px) (Sp.lim 1048576 py) 0 (-1), Sp.hasF R2 (Sp.lim 1048576 px) (Sp.lim 1048576 py) 0 (-1)] (-1))) = false from by simp))) <|
    .a 3 8 <|
    .p (cS #[.tmp 42] #[25] [sV 5 2] [5, 6, 7] [(5, ⟨[sV 6 R1.length, sV 7 R2.length], 39, true, 1⟩), (6, (pB R1)), (7, (pB R2))] (.int .i64 ((0 + (Sp.mx a1 (0 - a1))) + (Sp.mx a2 (0 - a2)))) (atwice_s2 R1 R2 zR1 fR1 zR2 fR2 cR1 cR2 F21 a1 a2 t1 b1 t2 b2) (.cons rS .nil) ⟨rfl, ⟨rfl, rfl, rfl, (.cons rS (.cons rS .nil))⟩, rfl, bP, rfl, bP, trivial⟩ rF) <|
    .a 1 8 <|
    .p (cS #[.tmp 44] #[25] [sV 1 2] [1, 2, 3] [(1, ⟨[sV 2 R1.length, sV 3 R2.length], 39, true, 1⟩), (2, (pB R1)), (3, (pB R2))] (.int .i64 ((0 + (Sp.mx a1 (0 - a1))) + (Sp.mx a2 (0 - a2)))) (atwice_s2 R1 R2 zR1 fR1 zR2 fR2 cR1 cR2 F21 a1 a2 t1 b1 t2 b2) (.cons rS .nil) ⟨rfl, ⟨rfl, rfl, rfl, (.cons rS (.cons rS .nil))⟩, rfl, bP, rfl, bP, trivial⟩ rF) <|
    .p (does_b false ((show (((0 + (Sp.mx a1 (0 - a1))) + (Sp.mx a2 (0 - a2))) != ((0 + (Sp.mx a1 (0 - a1))) + (Sp.mx a2 (0 - a2)))) = false from by simp))) <| .a 1 8 <| .nil _ _) ?_
  refine aw_fl 251 ?_
  refine aw_sk ?_
  refine then_normal ?_
  refine aw_p 127 (
    .a 1 8 <|
    .p (cS (m := 3) (args0 := [sV 0 2]) (pre0 := [(0, ⟨[sV 1 R1.length, sV 2 R2.length], 39, true, 1⟩), (1, (pB R1)), (2, (pB R2))]) (v0 := .agg #[.int .i64 lx, .int .i64 ly, .int .i64 ux, .int .i64 uy]) #[.tmp 48] #[25] [sV 1 2] [1, 2, 3] [(1, ⟨[sV 2 R1.length, sV 3 R2.length], 39, true, 1⟩), (2, (pB R1)), (3, (pB R2))] (.agg #[.int .i64 lx, .int .i64 ly, .int .i64 ux, .int .i64 uy]) ((by have h := abox_2 R1 R2 zR1 fR1 zR2 fR2; rw [hb] at h; exact h)) (.cons rS .nil) ⟨rfl, ⟨rfl, rfl, rfl, (.cons rS (.cons rS .nil))⟩, rfl, bP, rfl, bP, trivial⟩ rF) <|
    .a 2 8 <| .nil _ _) ?_
  refine aw_p 255 (
    .a 1 9 <| .p (does_c (grow_in lx ly ux uy 2 (by omega) (by omega) (by omega) (by omega) (by omega) (by omega) (by omega) (by omega) (by omega) (by omega))) <| .a 2 9 <| .nil _ _) ?_
  refine aw_p 511 (
    .a 20 10 <| .nil _ _) ?_
  refine aw_w [(0, sV 0 xs.length), (1, .int .i64 x), (4, .bool false), (5, sV 1 2), (6, .pointer (some ⟨4, 0, none⟩)), (7, sV 5 2), (8, .pointer (some ⟨8, 0, none⟩)), (9, .pointer (some ⟨9, 0, none⟩)), (10, sV 10 R3.length), (14, .bool true), (15, .bool false), (16, sV 0 xs.length), (17, sV 1 2), (18, .int .i64 x), (19, .agg #[.int .i64 px, .int .i64 py]), (20, sV 1 2), (21, sV 5 2), (22, sV 1 2), (23, .int .i64 0), (24, .bool false), (25, .bool false), (26, sV 5 2), (27, .int .i64 2), (28, sV 1 2), (29, .int .i64 2), (30, .bool false), (31, .bool false), (32, .bool false), (33, sV 5 2), (34, .agg #[.int .i64 px, .int .i64 py]), (35, .int .i64 (Sp.ahF [Sp.hasF R1 (Sp.lim 1048576 px) (Sp.lim 1048576 py) 0 (-1), Sp.hasF R2 (Sp.lim 1048576 px) (Sp.lim 1048576 py) 0 (-1)] (-1))), (36, sV 1 2), (37, .agg #[.int .i64 px, .int .i64 py]), (38, .int .i64 (Sp.ahF [Sp.hasF R1 (Sp.lim 1048576 px) (Sp.lim 1048576 py) 0 (-1), Sp.hasF R2 (Sp.lim 1048576 px) (Sp.lim 1048576 py) 0 (-1)] (-1))), (39, .bool false), (40, .bool false), (41, .bool false), (42, sV 5 2), (43, .int .i64 ((0 + (Sp.mx a1 (0 - a1))) + (Sp.mx a2 (0 - a2)))), (44, sV 1 2), (45, .int .i64 ((0 + (Sp.mx a1 (0 - a1))) + (Sp.mx a2 (0 - a2)))), (46, .bool false), (47, .bool false), (48, sV 1 2), (49, .agg #[.int .i64 lx, .int .i64 ly, .int .i64 ux, .int .i64 uy]), (50, .agg #[.int .i64 lx, .int .i64 ly, .int .i64 ux, .int .i64 uy]), (51, .agg #[.int .i64 (lx - 2), .int .i64 (ly - 2), .int .i64 (ux + 2), .int .i64 (uy + 2)]), (52, .pointer (some ⟨9, 0, none⟩)), (53, .agg #[.int .i64 (lx - 2), .int .i64 (ly - 2)]), (54, .pointer (some ⟨9, 2, none⟩)), (55, .pointer (some ⟨9, 2, none⟩)), (56, .int .i64 (ux + 2)), (57, .pointer (some ⟨9, 0, none⟩)), (58, .pointer (some ⟨9, 1, none⟩)), (59, .int .i64 (ly - 2)), (60, .agg #[.int .i64 (ux + 2), .int .i64 (ly - 2)]), (61, .pointer (some ⟨9, 2, none⟩)), (62, .agg #[.int .i64 (ux + 2), .int .i64 (uy + 2)]), (63, .pointer (some ⟨9, 0, none⟩)), (64, .pointer (some ⟨9, 0, none⟩)), (65, .int .i64 (lx - 2)), (66, .pointer (some ⟨9, 2, none⟩)), (67, .pointer (some ⟨9, 3, none⟩)), (68, .int .i64 (uy + 2)), (69, .agg #[.int .i64 (lx - 2), .int .i64 (uy + 2)]), (70, sV 10 R3.length)] [(0, ⟨(xs.map i64v), 3, false, 1⟩), (1, ⟨[sV 2 R1.length, sV 3 R2.length], 39, true, 1⟩), (2, (pB R1)), (3, (pB R2)), (4, ⟨[.int .i64 px, .int .i64 py], 28, true, 2⟩), (5, ⟨[sV 6 R1.length, sV 7 R2.length], 39, true, 1⟩), (6, (pB R1)), (7, (pB R2)), (8, ⟨[.int .i64 lx, .int .i64 ly, .int .i64 ux, .int .i64 uy], 36, true, 4⟩), (9, ⟨[.int .i64 (lx - 2), .int .i64 (ly - 2), .int .i64 (ux + 2), .int .i64 (uy + 2)], 36, true, 4⟩), (10, (pB R3))] ?_ (by rw [← hA]; kernel_rfl) (by rw [← hA]; kernel_rfl) (hc := (by simp [closedB, valsB, valB, List.all_eq_true, List.mem_flatMap, List.mem_range, List.mem_map, i64v, ptc, flat1]; try (intros; simp [valsB, valB, flat1]); try decide))
  refine aw_p 1023 (
    .a 1 11 <|
    .p (cF #[.tmp 71] #[25] [sV 1 2] 1 [1, 2, 3, 11] [(1, ⟨[sV 2 R1.length, sV 3 R2.length], 39, true, 1⟩), (2, (pB R1)), (3, (pB R2))] [(1, ⟨[sV 2 R1.length, sV 3 R2.length], 39, true, 1⟩), (2, (pB R1)), (3, (pB R2)), (11, ⟨[sV 2 R1.length, sV 3 R2.length], 39, true, 1⟩)] (sV 11 2) (aclone_2 R1 R2 zR1 fR1 zR2 fR2) (.cons rS .nil) ⟨rfl, ⟨rfl, rfl, rfl, (.cons rS (.cons rS .nil))⟩, rfl, bP, rfl, bP, trivial⟩ ⟨rfl, ⟨rfl, rfl, rfl, (.cons rS (.cons rS .nil))⟩, rfl, bP, rfl, bP, rfl, ⟨rfl, rfl, rfl, (.cons rS (.cons rS .nil))⟩, trivial⟩ rS) <|
    .a 2 12 <| .p (does_ap 13) <| .a 1 14 <| .nil _ _) ?_
  refine aw_sq 2046 2047 ?_
  refine aw_p 4093 (
    .a 1 14 <|
    .p (cS #[.tmp 76] #[25] [sV 13 3] [13, 2, 3, 10] [(13, ⟨[sV 2 R1.length, sV 3 R2.length, sV 10 R3.length], 39, true, 1⟩), (2, (pB R1)), (3, (pB R2)), (10, (pB R3))] (.int .i64 0) (acheck_os R1 R2 R3 zR1 fR1 zR2 fR2 zR3 fR3 cR1 cR2 cR3 F21 F31 F32) (.cons rS .nil) ⟨rfl, ⟨rfl, rfl, rfl, (.cons rS (.cons rS (.cons rS .nil)))⟩, rfl, bP, rfl, bP, rfl, bP, trivial⟩ rF) <|
    .a 3 14 <|
    .p (cS #[.tmp 80] #[25] [sV 13 3] [13, 2, 3, 10] [(13, ⟨[sV 2 R1.length, sV 3 R2.length, sV 10 R3.length], 39, true, 1⟩), (2, (pB R1)), (3, (pB R2)), (10, (pB R3))] (.int .i64 (((0 + (0 - (Sp.mx a1 (0 - a1)))) + (0 - (Sp.mx a2 (0 - a2)))) + (Sp.mx a3 (0 - a3)))) (atwice_os R1 R2 R3 zR1 fR1 zR2 fR2 zR3 fR3 cR1 cR2 cR3 F21 F31 F32 a1 a2 a3 t1 b1 t2 b2 t3 b3) (.cons rS .nil) ⟨rfl, ⟨rfl, rfl, rfl, (.cons rS (.cons rS (.cons rS .nil)))⟩, rfl, bP, rfl, bP, rfl, bP, trivial⟩ rF) <|
    .a 1 14 <| .p (cS (m := 1) (args0 := [sV 0 R3.length]) (pre0 := [(0, (pB R3))]) (v0 := .int .i64 a3) #[.tmp 82] #[39] [sV 10 R3.length] [10] [(10, (pB R3))] (.int .i64 a3) ((by have h := twicen_own R3 R3.length rfl (by omega); rw [t3] at h; exact h)) (.cons rS .nil) ⟨rfl, bP, trivial⟩ rF) <|
    .a 1 14 <|
    .p (cS #[.tmp 84] #[25] [sV 1 2] [1, 2, 3] [(1, ⟨[sV 2 R1.length, sV 3 R2.length], 39, true, 1⟩), (2, (pB R1)), (3, (pB R2))] (.int .i64 ((0 + (Sp.mx a1 (0 - a1))) + (Sp.mx a2 (0 - a2)))) (atwice_s2 R1 R2 zR1 fR1 zR2 fR2 cR1 cR2 F21 a1 a2 t1 b1 t2 b2) (.cons rS .nil) ⟨rfl, ⟨rfl, rfl, rfl, (.cons rS (.cons rS .nil))⟩, rfl, bP, rfl, bP, trivial⟩ rF) <|
    .p (does_i (a3 - ((0 + (Sp.mx a1 (0 - a1))) + (Sp.mx a2 (0 - a2)))) (wrap_i64 (by omega) (by omega)) .i64) <|
    .p (does_b false ((show ((((0 + (0 - (Sp.mx a1 (0 - a1)))) + (0 - (Sp.mx a2 (0 - a2)))) + (Sp.mx a3 (0 - a3))) != (a3 - ((0 + (Sp.mx a1 (0 - a1))) + (Sp.mx a2 (0 - a2))))) = false from (by rw [bne_eq_false_iff_eq, show Sp.mx a3 (0 - a3) = a3 by unfold Sp.mx; split <;> omega]; omega)))) <| .a 1 14 <| .nil _ _) ?_
  refine aw_fl 8187 ?_
  refine aw_sk ?_
  refine then_normal ?_
  refine aw_d 4095 (
    .a 2 14 <|
    .p (cS #[.tmp 89, .tmp 90] #[25, 28] [sV 1 2, .agg #[.int .i64 px, .int .i64 py]] [1, 2, 3] [(1, ⟨[sV 2 R1.length, sV 3 R2.length], 39, true, 1⟩), (2, (pB R1)), (3, (pB R2))] (.int .i64 (Sp.ahF [Sp.hasF R1 (Sp.lim 1048576 px) (Sp.lim 1048576 py) 0 (-1), Sp.hasF R2 (Sp.lim 1048576 px) (Sp.lim 1048576 py) 0 (-1)] (-1))) (ahas_2 R1 R2 zR1 fR1 zR2 fR2 px py) (.cons rS (.cons rF .nil)) ⟨rfl, ⟨rfl, rfl, rfl, (.cons rS (.cons rS .nil))⟩, rfl, bP, rfl, bP, trivial⟩ rF) <|
    .a 2 14 <|
    .p (cS #[.tmp 92, .tmp 93] #[25, 28] [sV 13 3, .agg #[.int .i64 px, .int .i64 py]] [13, 2, 3, 10] [(13, ⟨[sV 2 R1.length, sV 3 R2.length, sV 10 R3.length], 39, true, 1⟩), (2, (pB R1)), (3, (pB R2)), (10, (pB R3))] (.int .i64 (Sp.ahF [Sp.hasF R1 (Sp.lim 1048576 px) (Sp.lim 1048576 py) 0 (-1), Sp.hasF R2 (Sp.lim 1048576 px) (Sp.lim 1048576 py) 0 (-1), Sp.hasF R3 (Sp.lim 1048576 px) (Sp.lim 1048576 py) 0 (-1)] (-1))) (ahas_3 R1 R2 R3 zR1 fR1 zR2 fR2 zR3 fR3 px py) (.cons rS (.cons rF .nil)) ⟨rfl, ⟨rfl, rfl, rfl, (.cons rS (.cons rS (.cons rS .nil)))⟩, rfl, bP, rfl, bP, rfl, bP, trivial⟩ rF) <|
    .a 2 14 <| .nil _ _) ?_
  refine aw_sq 8190 8191 ?_
  refine aw_p 16381 (
    .a 2 14 <| .p (cS #[.tmp 95, .tmp 96] #[39, 28] [sV 10 R3.length, .agg #[.int .i64 px, .int .i64 py]] [10] [(10, (pB R3))] (.int .i64 (Sp.hasF R3 (Sp.lim 1048576 px) (Sp.lim 1048576 py) 0 (-1))) (hasn_own R3 R3.length rfl (by omega) px py) (.cons rS (.cons rF .nil)) ⟨rfl, bP, trivial⟩ rF) <|
    .a 1 14 <| .nil _ _) ?_
  refine aw_cd 32762 32763 ((Sp.hasF R3 (Sp.lim 1048576 px) (Sp.lim 1048576 py) 0 (-1)) != 1) (fun h1 => ?_) (fun h1 => ?_)
  · have h1p : (¬ ((Sp.hasF R3 (Sp.lim 1048576 px) (Sp.lim 1048576 py) 0 (-1)) = 1)) := by first | (simpa using h1) | (have h1q := h1; simp at h1q; omega) | (have h1q := bx1 h1; simp at h1q; omega)
    refine aw_p 65525 (
      .a 1 14 <| .p (does_b true ((show ((Sp.ahF [Sp.hasF R1 (Sp.lim 1048576 px) (Sp.lim 1048576 py) 0 (-1), Sp.hasF R2 (Sp.lim 1048576 px) (Sp.lim 1048576 py) 0 (-1)] (-1)) == (-1)) = true from (by have hz := hq.resolve_left (by simpa using h1); rw [beq_iff_eq]; exact Sp.all_out hz)))) <| .a 4 14 <|
      .p (cS #[.tmp 103, .tmp 104] #[39, 28] [sV 10 R3.length, .agg #[.int .i64 px, .int .i64 py]] [10] [(10, (pB R3))] (.int .i64 (Sp.hasF R3 (Sp.lim 1048576 px) (Sp.lim 1048576 py) 0 (-1))) (hasn_own R3 R3.length rfl (by omega) px py) (.cons rS (.cons rF .nil)) ⟨rfl, bP, trivial⟩ rF) <|
      .p (does_b true ((show ((Sp.ahF [Sp.hasF R1 (Sp.lim 1048576 px) (Sp.lim 1048576 py) 0 (-1), Sp.hasF R2 (Sp.lim 1048576 px) (Sp.lim 1048576 py) 0 (-1), Sp.hasF R3 (Sp.lim 1048576 px) (Sp.lim 1048576 py) 0 (-1)] (-1)) == (Sp.hasF R3 (Sp.lim 1048576 px) (Sp.lim 1048576 py) 0 (-1))) = true from (by have hz := hq.resolve_left (by simpa using h1); rw [beq_iff_eq]; exact Sp.ah_out (hs := [Sp.hasF R1 (Sp.lim 1048576 px) (Sp.lim 1048576 py) 0 (-1), Sp.hasF R2 (Sp.lim 1048576 px) (Sp.lim 1048576 py) 0 (-1)]) hz (by rcases Sp.has_cases R3 (Sp.lim 1048576 px) (Sp.lim 1048576 py) with q | q | q <;> first | exact .inl q | exact .inr q | exact absurd q (by simpa using h1)))))) <|
      .a 2 14 <| .nil _ _) ?_
    refine aw_rt ?_
    refine then_ret ?_
    exact en_ret [.bool true] (by kernel_rfl)
  · have h1p : ¬ (¬ ((Sp.hasF R3 (Sp.lim 1048576 px) (Sp.lim 1048576 py) 0 (-1)) = 1)) := by first | (simpa using h1) | (have h1q := h1; simp at h1q; omega) | (have h1q := bx2 h1; simp at h1q; omega)
    refine aw_sk ?_
    refine then_normal ?_
    refine aw_p 16383 (
      .a 2 14 <| .p (does_i (0 - (Sp.ahF [Sp.hasF R1 (Sp.lim 1048576 px) (Sp.lim 1048576 py) 0 (-1), Sp.hasF R2 (Sp.lim 1048576 px) (Sp.lim 1048576 py) 0 (-1)] (-1))) (wrap_i64 (by omega) (by omega)) .i64) <|
      .p (does_b true ((show ((Sp.ahF [Sp.hasF R1 (Sp.lim 1048576 px) (Sp.lim 1048576 py) 0 (-1), Sp.hasF R2 (Sp.lim 1048576 px) (Sp.lim 1048576 py) 0 (-1), Sp.hasF R3 (Sp.lim 1048576 px) (Sp.lim 1048576 py) 0 (-1)] (-1)) == (0 - (Sp.ahF [Sp.hasF R1 (Sp.lim 1048576 px) (Sp.lim 1048576 py) 0 (-1), Sp.hasF R2 (Sp.lim 1048576 px) (Sp.lim 1048576 py) 0 (-1)] (-1)))) = true from (by rw [beq_iff_eq]; exact Sp.ah_last (hs := [Sp.hasF R1 (Sp.lim 1048576 px) (Sp.lim 1048576 py) 0 (-1), Sp.hasF R2 (Sp.lim 1048576 px) (Sp.lim 1048576 py) 0 (-1)]) (by simpa using h1))))) <|
      .a 1 14 <| .nil _ _) ?_
    refine aw_rt ?_
    exact en_ret [.bool true] (by kernel_rfl)
end Go.Proofs.YtndkhgfecnbmnaaGreat.Am

namespace Go.Proofs.YtndkhgfecnbmnaaGreat.Am
open Go Go.Proofs
set_option maxRecDepth 100000
set_option maxHeartbeats 4000000
set_option linter.unusedVariables false
set_option linter.unusedSimpArgs false
theorem clone_own (ps : List (Int × Int)) (hn : 1 ≤ ps.length) (hz : ps.length ≤ 4096) :
    AC Tryz.prog 53 1 ([sV 0 ps.length]) [(0, (pB ps))] (sV 1 ps.length) [(0, (pB ps)), (1, (pB ps))] := by
  refine ac_in Tryz.func53 (fun w0 W pin => ?_)
  refine aw_p 3 (
    .a 1 2 <| .nil _ _) ?_
  refine aw_sq 6 7 ?_
  refine aw_p 13 (
    .a 1 2 <| .p (does_sln (k := 0) (off := 0) (n := ps.length) (c := 0) (by kernel_rfl) (by omega)) <| .nil _ _) ?_
  refine aw_fl 27 ?_
  refine aw_sk ?_
  refine then_normal ?_
  refine aw_p 15 (
    .a 2 2 <|
    .p (does_apg ps.length 1 28 2 16 2 0 0 0 ps.length ⟨[], 28, true, 2⟩ (pB ps) (ps.flatMap ptc) (by kernel_rfl) (by kernel_rfl) (by kernel_rfl) (by kernel_rfl) (by kernel_rfl) (plain_pairs _) (by rw [Nat.zero_mul]; exact Nat.zero_le _) (by show _ ≤ (ps.flatMap ptc).length; rw [pairs_length]; omega) (.inl hn) (by omega) (by omega) (by show List.take _ [] ++ ((ps.flatMap ptc).drop _).take _ = _; rw [cut_pairs (j := 0) (k := ps.length) (by omega) (by omega), List.drop_zero, List.take_length, List.take_nil, List.nil_append]) (by omega)) <|
    .a 1 3 <| .nil _ _) ?_
  refine aw_rt ?_
  exact en_ret [sV 1 ps.length] (by kernel_rfl)
theorem rev_ok (ps : List (Int × Int)) (hn : 1 ≤ ps.length) (hz : ps.length ≤ 4096) :
    AC Tryz.prog 29 1 ([sV 0 ps.length]) [(0, (pB ps))] (.tuple #[]) [(0, (pB ps.reverse))] := by
  refine ac_in Tryz.func29 (fun w0 W pin => ?_)
  refine aw_p 3 (
    .a 2 1 <| .p (does_i ((ps.length - 1 : Nat) : Int) ((show (IntKind.wrap .i64 (((ps.length : Nat) : Int) - 1)) = ((ps.length - 1 : Nat) : Int) from ((wrap_i64 (by omega) (by omega)).trans (by omega)))) .i64) <| .a 2 1 <| .nil _ _) ?_
  refine aw_bl 0 7 ?_
  refine aw_w [(0, sV 0 ps.length), (2, .int .i64 0), (3, .int .i64 ((ps.length - 1 : Nat) : Int)), (4, sV 0 ps.length), (5, .int .i64 ((ps.length : Nat) : Int)), (6, .int .i64 ((ps.length - 1 : Nat) : Int))] [(0, (pB (Sp.rvl ps 0)))] ?_ (by kernel_rfl) (by rw [Sp.rvl_0]; kernel_rfl) (hc := (by simp [closedB, valsB, valB, List.all_eq_true, List.mem_flatMap, List.mem_range, List.mem_map, i64v, ptc, flat1]; try (intros; simp [valsB, valB, flat1]); try decide))
  refine aw_lp 15 ?_
  refine al_w [(0, sV 0 ps.length), (2, .int .i64 ((0 : Nat) : Int)), (3, .int .i64 (((ps.length - 1) : Nat) : Int))] [(0, (pB (Sp.rvl ps 0)))] ?_ (hc := (by simp [closedB, valsB, valB, List.all_eq_true, List.mem_flatMap, List.mem_range, List.mem_map, i64v, ptc, flat1]; try (intros; simp [valsB, valB, flat1]); try decide))
  refine al_ind (fun i : Nat × Nat => (fun (u : Nat) (v : Nat) => mkSt 1 [(0, sV 0 ps.length), (2, .int .i64 ((u : Nat) : Int)), (3, .int .i64 ((v : Nat) : Int))] [(0, (pB (Sp.rvl ps u)))]) i.1 i.2) (fun i : Nat × Nat => (fun (u : Nat) (v : Nat) => (u + v + 1 = ps.length)) i.1 i.2) (fun i : Nat × Nat => (fun (u : Nat) (v : Nat) => v - u) i.1 i.2) (fun i hi1 ih1 => ?_) (0, (ps.length - 1)) (show (0 + (ps.length - 1) + 1 = ps.length) from by omega)
  obtain ⟨u, v⟩ := i
  have hi1' : (u + v + 1 = ps.length) := hi1
  have hv : u + v + 1 = ps.length := hi1'
  show AL _ _ _ (mkSt 1 [(0, sV 0 ps.length), (2, .int .i64 ((u : Nat) : Int)), (3, .int .i64 ((v : Nat) : Int))] [(0, (pB (Sp.rvl ps u)))]) _
  refine al_round ?_
  refine aw_sq 30 31 ?_
  refine aw_p 61 (
    .a 3 1 <| .nil _ _) ?_
  refine aw_cd 122 123 (decide (((u : Nat) : Int) < ((v : Nat) : Int))) (fun h1 => ?_) (fun h1 => ?_)
  · have h1p : ((((u : Nat) : Int) < ((v : Nat) : Int))) := by first | (simpa using h1) | (have h1q := h1; simp at h1q; omega) | (have h1q := bx1 h1; simp at h1q; omega)
    have hlt : u < v := by omega
    refine aw_sk ?_
    refine then_normal ?_
    refine aw_sq 62 63 ?_
    refine aw_bl 1 125 ?_
    refine aw_d1 (
      .a 6 1 <| .p (does_indexSlice (t := 39) (x := .tmp 18) (y := .tmp 19) (k := 0) (off := 0) (n := ps.length) (c := 0) (z := 2) (kd := .i64) (j := ((v : Nat) : Int)) (by kernel_rfl) (by kernel_rfl) (by kernel_rfl) (by kernel_rfl) (by kernel_rfl) (by omega) (by omega)) <|
      .p (does_load (t := 28) (x := .tmp 20) (k := 0) (off := (0 + (((v : Nat) : Int)).toNat * 2)) (b := (pB (Sp.rvl ps u))) (v := .agg #[.int .i64 (((Sp.rvl ps u).getD v (0, 0)).1), .int .i64 (((Sp.rvl ps u).getD v (0, 0)).2)]) (by kernel_rfl) (by kernel_rfl) (by kernel_rfl) (ldV_pair (j := v) (by kernel_rfl) (by kernel_rfl) (by omega) (by first | omega | (simp only [Sp.rvl_len, List.length_set]; omega)))) <|
      .a 2 1 <| .p (does_indexSlice (t := 39) (x := .tmp 22) (y := .tmp 23) (k := 0) (off := 0) (n := ps.length) (c := 0) (z := 2) (kd := .i64) (j := ((u : Nat) : Int)) (by kernel_rfl) (by kernel_rfl) (by kernel_rfl) (by kernel_rfl) (by kernel_rfl) (by omega) (by omega)) <|
      .p (does_load (t := 28) (x := .tmp 24) (k := 0) (off := (0 + (((u : Nat) : Int)).toNat * 2)) (b := (pB (Sp.rvl ps u))) (v := .agg #[.int .i64 (((Sp.rvl ps u).getD u (0, 0)).1), .int .i64 (((Sp.rvl ps u).getD u (0, 0)).2)]) (by kernel_rfl) (by kernel_rfl) (by kernel_rfl) (ldV_pair (j := u) (by kernel_rfl) (by kernel_rfl) (by omega) (by first | omega | (simp only [Sp.rvl_len, List.length_set]; omega)))) <|
      .p (does_indexSlice (t := 39) (x := .tmp 14) (y := .tmp 15) (k := 0) (off := 0) (n := ps.length) (c := 0) (z := 2) (kd := .i64) (j := ((u : Nat) : Int)) (by kernel_rfl) (by kernel_rfl) (by kernel_rfl) (by kernel_rfl) (by kernel_rfl) (by omega) (by omega)) <|
      .p (does_store (t := 28) (x := .tmp 26) (y := .tmp 21) (k := 0) (off := (0 + (((u : Nat) : Int)).toNat * 2)) (b := (pB (Sp.rvl ps u))) (v := .agg #[.int .i64 (((Sp.rvl ps u).getD v (0, 0)).1), .int .i64 (((Sp.rvl ps u).getD v (0, 0)).2)]) (cells := (((Sp.rvl ps u).set u ((((Sp.rvl ps u).getD v (0, 0)).1), (((Sp.rvl ps u).getD v (0, 0)).2))).flatMap ptc)) (by kernel_rfl) (by kernel_rfl) (by kernel_rfl) (by kernel_rfl) (by kernel_rfl) (by kernel_rfl) (by kernel_rfl) (Nat.ble_eq_true_of_le (by show _ + 2 ≤ ((Sp.rvl ps u).flatMap ptc).length; rw [pairs_length]; first | omega | (simp only [Sp.rvl_len, List.length_set]; omega))) (set_pair (j := u) (by omega) (by first | omega | (simp only [Sp.rvl_len, List.length_set]; omega)))) <|
      .p (does_indexSlice (t := 39) (x := .tmp 16) (y := .tmp 17) (k := 0) (off := 0) (n := ps.length) (c := 0) (z := 2) (kd := .i64) (j := ((v : Nat) : Int)) (by kernel_rfl) (by kernel_rfl) (by kernel_rfl) (by kernel_rfl) (by kernel_rfl) (by omega) (by omega)) <|
      .p (does_store (t := 28) (x := .tmp 27) (y := .tmp 25) (k := 0) (off := (0 + (((v : Nat) : Int)).toNat * 2)) (b := (pB ((Sp.rvl ps u).set u ((((Sp.rvl ps u).getD v (0, 0)).1), (((Sp.rvl ps u).getD v (0, 0)).2))))) (v := .agg #[.int .i64 (((Sp.rvl ps u).getD u (0, 0)).1), .int .i64 (((Sp.rvl ps u).getD u (0, 0)).2)]) (cells := ((((Sp.rvl ps u).set u ((((Sp.rvl ps u).getD v (0, 0)).1), (((Sp.rvl ps u).getD v (0, 0)).2))).set v ((((Sp.rvl ps u).getD u (0, 0)).1), (((Sp.rvl ps u).getD u (0, 0)).2))).flatMap ptc)) (by kernel_rfl) (by kernel_rfl) (by kernel_rfl) (by kernel_rfl) (by kernel_rfl) (by kernel_rfl) (by kernel_rfl) (Nat.ble_eq_true_of_le (by show _ + 2 ≤ (((Sp.rvl ps u).set u ((((Sp.rvl ps u).getD v (0, 0)).1), (((Sp.rvl ps u).getD v (0, 0)).2))).flatMap ptc).length; rw [pairs_length]; first | omega | (simp only [Sp.rvl_len, List.length_set]; omega))) (set_pair (j := v) (by omega) (by first | omega | (simp only [Sp.rvl_len, List.length_set]; omega)))) <| .nil _ _) ?_
    refine block_normal ?_
    refine then_normal ?_
    refine aw_w [(0, sV 0 ps.length), (2, .int .i64 ((u : Nat) : Int)), (3, .int .i64 ((v : Nat) : Int)), (7, .int .i64 ((u : Nat) : Int)), (8, .int .i64 ((v : Nat) : Int)), (9, .bool (decide (((u : Nat) : Int) < ((v : Nat) : Int)))), (14, sV 0 ps.length), (15, .int .i64 ((u : Nat) : Int)), (16, sV 0 ps.length), (17, .int .i64 ((v : Nat) : Int)), (18, sV 0 ps.length), (19, .int .i64 ((v : Nat) : Int)), (20, .pointer (some ⟨0, 0 + (((v : Nat) : Int)).toNat * 2, none⟩)), (21, .agg #[.int .i64 (((Sp.rvl ps u).getD v (0, 0)).1), .int .i64 (((Sp.rvl ps u).getD v (0, 0)).2)]), (22, sV 0 ps.length), (23, .int .i64 ((u : Nat) : Int)), (24, .pointer (some ⟨0, 0 + (((u : Nat) : Int)).toNat * 2, none⟩)), (25, .agg #[.int .i64 (((Sp.rvl ps u).getD u (0, 0)).1), .int .i64 (((Sp.rvl ps u).getD u (0, 0)).2)]), (26, .pointer (some ⟨0, 0 + (((u : Nat) : Int)).toNat * 2, none⟩)), (27, .pointer (some ⟨0, 0 + (((v : Nat) : Int)).toNat * 2, none⟩))] [(0, (pB (Sp.rvl ps (u + 1))))] ?_ (by kernel_rfl) (by rw [← Sp.rvl_next hv hlt]; kernel_rfl) (hc := (by simp [closedB, valsB, valB, List.all_eq_true, List.mem_flatMap, List.mem_range, List.mem_map, i64v, ptc, flat1]; try (intros; simp [valsB, valB, flat1]); try decide))
    refine aw_p1 (
      .a 1 1 <| .p (does_i (((u : Nat) : Int) + 1) (wrap_i64 (by omega) (by omega)) .i64) <| .a 1 1 <| .p (does_i ((v - 1 : Nat) : Int) ((show (IntKind.wrap .i64 (((v : Nat) : Int) - 1)) = ((v - 1 : Nat) : Int) from ((wrap_i64 (by omega) (by omega)).trans (by omega)))) .i64) <| .a 2 1 <| .nil _ _) ?_
    refine then_normal ?_
    refine al_w [(0, sV 0 ps.length), (2, .int .i64 (((u + 1) : Nat) : Int)), (3, .int .i64 (((v - 1) : Nat) : Int))] [(0, (pB (Sp.rvl ps (u + 1))))] ?_ (hc := (by simp [closedB, valsB, valB, List.all_eq_true, List.mem_flatMap, List.mem_range, List.mem_map, i64v, ptc, flat1]; try (intros; simp [valsB, valB, flat1]); try decide))
    exact ih1 ((u + 1), (v - 1)) (show ((u + 1) + (v - 1) + 1 = ps.length) from by omega) (show (v - 1) - (u + 1) < v - u from by omega)
  · have h1p : ¬ ((((u : Nat) : Int) < ((v : Nat) : Int))) := by first | (simpa using h1) | (have h1q := h1; simp at h1q; omega) | (have h1q := bx2 h1; simp at h1q; omega)
    have hge : ¬ u < v := by omega
    refine aw_w [(0, sV 0 ps.length), (2, .int .i64 ((u : Nat) : Int)), (3, .int .i64 ((v : Nat) : Int)), (7, .int .i64 ((u : Nat) : Int)), (8, .int .i64 ((v : Nat) : Int)), (9, .bool (decide (((u : Nat) : Int) < ((v : Nat) : Int))))] [(0, (pB ps.reverse))] ?_ (by kernel_rfl) (by rw [← Sp.rvl_end hv hge]; kernel_rfl) (hc := (by simp [closedB, valsB, valB, List.all_eq_true, List.mem_flatMap, List.mem_range, List.mem_map, i64v, ptc, flat1]; try (intros; simp [valsB, valB, flat1]); try decide))
    refine aw_ex 0 ?_
    refine then_exit ?_
    refine then_exit ?_
    refine block_exit ?_
    exact en_normal [] (by kernel_rfl)
theorem minf_ok (ps : List (Int × Int)) (hn : 1 ≤ ps.length) (hz : ps.length ≤ 4096) :
    AC Tryz.prog 55 1 ([sV 0 ps.length, .func (.func 33) #[] #[]]) [(0, (pB ps))] (.agg #[.int .i64 ((Sp.mnP ps (ps.length - 1)).1), .int .i64 ((Sp.mnP ps (ps.length - 1)).2)]) [(0, (pB ps))] := by
  refine ac_in Tryz.func55 (fun w0 W pin => ?_)
  refine aw_p 3 (
    .a 1 1 <| .nil _ _) ?_
  refine aw_sq 6 7 ?_
  refine aw_p 13 (
    .a 2 2 <| .p (does_b false ((show (decide (((ps.length : Nat) : Int) < 1)) = false from decide_eq_false (by omega)))) <| .nil _ _) ?_
  refine aw_fl 27 ?_
  refine aw_sk ?_
  refine then_normal ?_
  refine aw_p 15 (
    .a 1 2 <| .p (does_indexSlice (t := 39) (x := .tmp 11) (y := .const (.int .i64 0)) (k := 0) (off := 0) (n := ps.length) (c := 0) (z := 2) (kd := .i64) (j := 0) (by kernel_rfl) (by kernel_rfl) (by kernel_rfl) (by kernel_rfl) (by kernel_rfl) (by omega) (by omega)) <|
    .p (does_load (t := 28) (x := .tmp 12) (k := 0) (off := 0) (b := (pB ps)) (v := .agg #[.int .i64 ((ps.getD 0 (0, 0)).1), .int .i64 ((ps.getD 0 (0, 0)).2)]) (by kernel_rfl) (by kernel_rfl) (by kernel_rfl) (ldV_pair (j := 0) (by kernel_rfl) (by kernel_rfl) (by omega) (by omega))) <| .a 2 2 <| .nil _ _) ?_
  refine aw_sq 30 31 ?_
  refine aw_p 61 (
    .a 1 3 <| .nil _ _) ?_
  refine aw_bl 0 123 ?_
  refine aw_lp 247 ?_
  refine al_w [(0, sV 0 ps.length), (1, .func (.func 33) #[] #[]), (4, .pointer (some ⟨1, 0, none⟩)), (5, .pointer (some ⟨2, 0, none⟩)), (6, .int .i64 ((0 + 1 : Nat) : Int))] [(0, (pB ps)), (1, ⟨[.int .i64 0, .int .i64 0], 28, true, 2⟩), (2, ⟨[.int .i64 ((ps.getD 0 (0, 0)).1), .int .i64 ((ps.getD 0 (0, 0)).2)], 28, true, 2⟩)] ?_ (hc := (by simp [closedB, valsB, valB, List.all_eq_true, List.mem_flatMap, List.mem_range, List.mem_map, i64v, ptc, flat1]; try (intros; simp [valsB, valB, flat1]); try decide))
  refine al_ind (fun i : Nat × Int × Int => (fun (i : Nat) (a : Int) (b : Int) => mkSt 1 [(0, sV 0 ps.length), (1, .func (.func 33) #[] #[]), (4, .pointer (some ⟨1, 0, none⟩)), (5, .pointer (some ⟨2, 0, none⟩)), (6, .int .i64 ((i + 1 : Nat) : Int))] [(0, (pB ps)), (1, ⟨[.int .i64 0, .int .i64 0], 28, true, 2⟩), (2, ⟨[.int .i64 a, .int .i64 b], 28, true, 2⟩)]) i.1 i.2.1 i.2.2) (fun i : Nat × Int × Int => (fun (i : Nat) (a : Int) (b : Int) => (i + 1 ≤ ps.length) ∧ (a = (Sp.mnP ps i).1) ∧ (b = (Sp.mnP ps i).2)) i.1 i.2.1 i.2.2) (fun i : Nat × Int × Int => (fun (i : Nat) (a : Int) (b : Int) => ps.length - i) i.1 i.2.1 i.2.2) (fun i hi1 ih1 => ?_) (0, ((ps.getD 0 (0, 0)).1), ((ps.getD 0 (0, 0)).2)) (show (0 + 1 ≤ ps.length) ∧ (((ps.getD 0 (0, 0)).1) = (Sp.mnP ps 0).1) ∧ (((ps.getD 0 (0, 0)).2) = (Sp.mnP ps 0).2) from ⟨by omega, by rfl, by rfl⟩)
  obtain ⟨i, a, b⟩ := i
  have hi1' : (i + 1 ≤ ps.length) ∧ (a = (Sp.mnP ps i).1) ∧ (b = (Sp.mnP ps i).2) := hi1
  obtain ⟨hi, ha, hb⟩ := hi1'
  show AL _ _ _ (mkSt 1 [(0, sV 0 ps.length), (1, .func (.func 33) #[] #[]), (4, .pointer (some ⟨1, 0, none⟩)), (5, .pointer (some ⟨2, 0, none⟩)), (6, .int .i64 ((i + 1 : Nat) : Int))] [(0, (pB ps)), (1, ⟨[.int .i64 0, .int .i64 0], 28, true, 2⟩), (2, ⟨[.int .i64 a, .int .i64 b], 28, true, 2⟩)]) _
  refine al_round ?_
  refine aw_sq 494 495 ?_
  refine aw_p 989 (
    .a 4 3 <| .nil _ _) ?_
  refine aw_cd 1978 1979 (decide (((i + 1 : Nat) : Int) < ((ps.length : Nat) : Int))) (fun h1 => ?_) (fun h1 => ?_)
  · have h1p : ((((i + 1 : Nat) : Int) < ((ps.length : Nat) : Int))) := by first | (simpa using h1) | (have h1q := h1; simp at h1q; omega) | (have h1q := bx1 h1; simp at h1q; omega)
    have hil : i + 1 < ps.length := by omega
    refine aw_sk ?_
    refine then_normal ?_
    refine aw_sq 990 991 ?_
    refine aw_bl 1 1981 ?_
    refine aw_d 3963 (
      .a 3 3 <| .p (does_indexSlice (t := 39) (x := .tmp 21) (y := .tmp 22) (k := 0) (off := 0) (n := ps.length) (c := 0) (z := 2) (kd := .i64) (j := ((i + 1 : Nat) : Int)) (by kernel_rfl) (by kernel_rfl) (by kernel_rfl) (by kernel_rfl) (by kernel_rfl) (by omega) (by omega)) <|
      .p (does_load (t := 28) (x := .tmp 23) (k := 0) (off := (0 + (((i + 1 : Nat) : Int)).toNat * 2)) (b := (pB ps)) (v := .agg #[.int .i64 ((ps.getD (i + 1) (0, 0)).1), .int .i64 ((ps.getD (i + 1) (0, 0)).2)]) (by kernel_rfl) (by kernel_rfl) (by kernel_rfl) (ldV_pair (j := (i + 1)) (by kernel_rfl) (by kernel_rfl) (by omega) (by omega))) <|
      .a 1 3 <| .p (does_c (pcmp_ok ((ps.getD (i + 1) (0, 0)).1) ((ps.getD (i + 1) (0, 0)).2) a b)) <| .a 1 3 <| .nil _ _) ?_
    refine aw_cd 7926 7927 (decide ((Sp.pcmp ((ps.getD (i + 1) (0, 0)).1) ((ps.getD (i + 1) (0, 0)).2) a b) < 0)) (fun h2 => ?_) (fun h2 => ?_)
    · have h2p : (((Sp.pcmp ((ps.getD (i + 1) (0, 0)).1) ((ps.getD (i + 1) (0, 0)).2) a b) < 0)) := by first | (simpa using h2) | (have h2q := h2; simp at h2q; omega) | (have h2q := bx1 h2; simp at h2q; omega)
      refine aw_p1 (
        .a 2 3 <| .p (does_indexSlice (t := 39) (x := .tmp 28) (y := .tmp 29) (k := 0) (off := 0) (n := ps.length) (c := 0) (z := 2) (kd := .i64) (j := ((i + 1 : Nat) : Int)) (by kernel_rfl) (by kernel_rfl) (by kernel_rfl) (by kernel_rfl) (by kernel_rfl) (by omega) (by omega)) <|
        .p (does_load (t := 28) (x := .tmp 30) (k := 0) (off := (0 + (((i + 1 : Nat) : Int)).toNat * 2)) (b := (pB ps)) (v := .agg #[.int .i64 ((ps.getD (i + 1) (0, 0)).1), .int .i64 ((ps.getD (i + 1) (0, 0)).2)]) (by kernel_rfl) (by kernel_rfl) (by kernel_rfl) (ldV_pair (j := (i + 1)) (by kernel_rfl) (by kernel_rfl) (by omega) (by omega))) <|
        .a 1 3 <| .nil _ _) ?_
      refine block_normal ?_
      refine then_normal ?_
      refine aw_p1 (
        .a 1 3 <| .p (does_i (((i + 1 : Nat) : Int) + 1) (wrap_i64 (by omega) (by omega)) .i64) <| .a 1 3 <| .nil _ _) ?_
      refine then_normal ?_
      refine al_w [(0, sV 0 ps.length), (1, .func (.func 33) #[] #[]), (4, .pointer (some ⟨1, 0, none⟩)), (5, .pointer (some ⟨2, 0, none⟩)), (6, .int .i64 (((i + 1) + 1 : Nat) : Int))] [(0, (pB ps)), (1, ⟨[.int .i64 0, .int .i64 0], 28, true, 2⟩), (2, ⟨[.int .i64 ((ps.getD (i + 1) (0, 0)).1), .int .i64 ((ps.getD (i + 1) (0, 0)).2)], 28, true, 2⟩)] ?_ (hc := (by simp [closedB, valsB, valB, List.all_eq_true, List.mem_flatMap, List.mem_range, List.mem_map, i64v, ptc, flat1]; try (intros; simp [valsB, valB, flat1]); try decide))
      exact ih1 ((i + 1), ((ps.getD (i + 1) (0, 0)).1), ((ps.getD (i + 1) (0, 0)).2)) (show ((i + 1) + 1 ≤ ps.length) ∧ (((ps.getD (i + 1) (0, 0)).1) = (Sp.mnP ps (i + 1)).1) ∧ (((ps.getD (i + 1) (0, 0)).2) = (Sp.mnP ps (i + 1)).2) from ⟨by omega, by (first | exact congrArg (·.1) (Sp.mnP_y ha hb (by assumption)) | exact congrArg (·.1) (Sp.mnP_n ha hb (by assumption))), by (first | exact congrArg (·.2) (Sp.mnP_y ha hb (by assumption)) | exact congrArg (·.2) (Sp.mnP_n ha hb (by assumption)))⟩) (show ps.length - (i + 1) < ps.length - i from by omega)
    · have h2p : ¬ (((Sp.pcmp ((ps.getD (i + 1) (0, 0)).1) ((ps.getD (i + 1) (0, 0)).2) a b) < 0)) := by first | (simpa using h2) | (have h2q := h2; simp at h2q; omega) | (have h2q := bx2 h2; simp at h2q; omega)
      refine aw_sk ?_
      refine block_normal ?_
      refine then_normal ?_
      refine aw_p1 (
        .a 1 3 <| .p (does_i (((i + 1 : Nat) : Int) + 1) (wrap_i64 (by omega) (by omega)) .i64) <| .a 1 3 <| .nil _ _) ?_
      refine then_normal ?_
      refine al_w [(0, sV 0 ps.length), (1, .func (.func 33) #[] #[]), (4, .pointer (some ⟨1, 0, none⟩)), (5, .pointer (some ⟨2, 0, none⟩)), (6, .int .i64 (((i + 1) + 1 : Nat) : Int))] [(0, (pB ps)), (1, ⟨[.int .i64 0, .int .i64 0], 28, true, 2⟩), (2, ⟨[.int .i64 a, .int .i64 b], 28, true, 2⟩)] ?_ (hc := (by simp [closedB, valsB, valB, List.all_eq_true, List.mem_flatMap, List.mem_range, List.mem_map, i64v, ptc, flat1]; try (intros; simp [valsB, valB, flat1]); try decide))
      exact ih1 ((i + 1), a, b) (show ((i + 1) + 1 ≤ ps.length) ∧ (a = (Sp.mnP ps (i + 1)).1) ∧ (b = (Sp.mnP ps (i + 1)).2) from ⟨by omega, by (first | exact congrArg (·.1) (Sp.mnP_y ha hb (by assumption)) | exact congrArg (·.1) (Sp.mnP_n ha hb (by assumption))), by (first | exact congrArg (·.2) (Sp.mnP_y ha hb (by assumption)) | exact congrArg (·.2) (Sp.mnP_n ha hb (by assumption)))⟩) (show ps.length - (i + 1) < ps.length - i from by omega)
  · have h1p : ¬ ((((i + 1 : Nat) : Int) < ((ps.length : Nat) : Int))) := by first | (simpa using h1) | (have h1q := h1; simp at h1q; omega) | (have h1q := bx2 h1; simp at h1q; omega)
    have hge : i = ps.length - 1 := by omega
    refine aw_ex 0 ?_
    refine then_exit ?_
    refine then_exit ?_
    refine block_exit ?_
    refine then_normal ?_
    refine aw_p 63 (
      .a 2 3 <| .nil _ _) ?_
    refine aw_rt ?_
    exact en_ret [.agg #[.int .i64 a, .int .i64 b]] (show (.agg #[.int .i64 a, .int .i64 b] : Value) = (.agg #[.int .i64 ((Sp.mnP ps (ps.length - 1)).1), .int .i64 ((Sp.mnP ps (ps.length - 1)).2)]) from (congrArg (fun z : List Value => Value.agg z.toArray) (lcons (congrArg (Value.int .i64) (show a = ((Sp.mnP ps (ps.length - 1)).1) from by (first | exact (by rw [ha, hge]) | exact (by rw [hb, hge])))) (lcons (congrArg (Value.int .i64) (show b = ((Sp.mnP ps (ps.length - 1)).2) from by (first | exact (by rw [ha, hge]) | exact (by rw [hb, hge])))) rfl))))
theorem index_ok (ps : List (Int × Int)) (hn : 1 ≤ ps.length) (hz : ps.length ≤ 4096) (x y : Int) :
    AC Tryz.prog 54 1 ([sV 0 ps.length, .agg #[.int .i64 x, .int .i64 y]]) [(0, (pB ps))] (.int .i64 (Sp.ixF (Sp.eqTo (x, y)) ps 0)) [(0, (pB ps))] := by
  refine ac_in Tryz.func54 (fun w0 W pin => ?_)
  refine aw_p 3 (
    .a 2 1 <| .nil _ _) ?_
  refine aw_sq 6 7 ?_
  refine aw_p 13 (
    .a 3 2 <| .nil _ _) ?_
  refine aw_bl 0 27 ?_
  refine aw_lp 55 ?_
  refine al_w [(0, sV 0 ps.length), (3, .pointer (some ⟨1, 0, none⟩)), (7, .int .i64 ((ps.length : Nat) : Int)), (8, .int .i64 ((0 : Nat) : Int))] [(0, (pB ps)), (1, ⟨[.int .i64 x, .int .i64 y], 28, true, 2⟩)] ?_ (hc := (by simp [closedB, valsB, valB, List.all_eq_true, List.mem_flatMap, List.mem_range, List.mem_map, i64v, ptc, flat1]; try (intros; simp [valsB, valB, flat1]); try decide))
  refine al_ind (fun i : Nat => (fun (i : Nat) => mkSt 1 [(0, sV 0 ps.length), (3, .pointer (some ⟨1, 0, none⟩)), (7, .int .i64 ((ps.length : Nat) : Int)), (8, .int .i64 ((i : Nat) : Int))] [(0, (pB ps)), (1, ⟨[.int .i64 x, .int .i64 y], 28, true, 2⟩)]) i) (fun i : Nat => (fun (i : Nat) => (i ≤ ps.length) ∧ (Sp.ixF (Sp.eqTo (x, y)) ps i = Sp.ixF (Sp.eqTo (x, y)) ps 0)) i) (fun i : Nat => (fun (i : Nat) => ps.length - i) i) (fun i hi1 ih1 => ?_) 0 (show (0 ≤ ps.length) ∧ (Sp.ixF (Sp.eqTo (x, y)) ps 0 = Sp.ixF (Sp.eqTo (x, y)) ps 0) from ⟨by omega, by rfl⟩)
  obtain ⟨i, hv1⟩ : ∃ z, z = i := ⟨i, rfl⟩; subst hv1
  have hi1' : (i ≤ ps.length) ∧ (Sp.ixF (Sp.eqTo (x, y)) ps i = Sp.ixF (Sp.eqTo (x, y)) ps 0) := hi1
  obtain ⟨hi, hh⟩ := hi1'
  show AL _ _ _ (mkSt 1 [(0, sV 0 ps.length), (3, .pointer (some ⟨1, 0, none⟩)), (7, .int .i64 ((ps.length : Nat) : Int)), (8, .int .i64 ((i : Nat) : Int))] [(0, (pB ps)), (1, ⟨[.int .i64 x, .int .i64 y], 28, true, 2⟩)]) _
  refine al_round ?_
  refine aw_p 111 (
    .a 1 2 <| .nil _ _) ?_
  refine aw_sq 222 223 ?_
  refine aw_cd 444 445 (decide (((i : Nat) : Int) < ((ps.length : Nat) : Int))) (fun h1 => ?_) (fun h1 => ?_)
  · have h1p : ((((i : Nat) : Int) < ((ps.length : Nat) : Int))) := by first | (simpa using h1) | (have h1q := h1; simp at h1q; omega) | (have h1q := bx1 h1; simp at h1q; omega)
    have hil : i < ps.length := by omega
    refine aw_sk ?_
    refine then_normal ?_
    refine aw_sq 446 447 ?_
    refine aw_bl 1 893 ?_
    refine aw_p 1787 (
      .a 2 2 <| .nil _ _) ?_
    refine aw_d 3575 (
      .a 3 2 <| .p (does_indexSlice (t := 39) (x := .tmp 12) (y := .tmp 13) (k := 0) (off := 0) (n := ps.length) (c := 0) (z := 2) (kd := .i64) (j := ((i : Nat) : Int)) (by kernel_rfl) (by kernel_rfl) (by kernel_rfl) (by kernel_rfl) (by kernel_rfl) (by omega) (by omega)) <|
      .p (does_load (t := 28) (x := .tmp 14) (k := 0) (off := (0 + (((i : Nat) : Int)).toNat * 2)) (b := (pB ps)) (v := .agg #[.int .i64 ((ps.getD i (0, 0)).1), .int .i64 ((ps.getD i (0, 0)).2)]) (by kernel_rfl) (by kernel_rfl) (by kernel_rfl) (ldV_pair (j := i) (by kernel_rfl) (by kernel_rfl) (by omega) (by omega))) <|
      .p (does_e ((x == ((ps.getD i (0, 0)).1)) && ((y == ((ps.getD i (0, 0)).2)) && true)) (rfl)) <| .nil _ _) ?_
    refine aw_cd 7150 7151 ((x == ((ps.getD i (0, 0)).1)) && ((y == ((ps.getD i (0, 0)).2)) && true)) (fun h2 => ?_) (fun h2 => ?_)
    · have h2p : ((x = ((ps.getD i (0, 0)).1) ∧ y = ((ps.getD i (0, 0)).2))) := by first | (simpa using h2) | (have h2q := h2; simp at h2q; omega) | (have h2q := bx1 h2; simp at h2q; omega)
      refine aw_p 14301 (
        .a 2 2 <| .nil _ _) ?_
      refine aw_rt ?_
      refine block_ret ?_
      refine then_ret ?_
      refine then_ret ?_
      refine block_ret ?_
      refine then_ret ?_
      exact en_ret [.int .i64 ((i : Nat) : Int)] (show (.int .i64 ((i : Nat) : Int) : Value) = (.int .i64 (Sp.ixF (Sp.eqTo (x, y)) ps 0)) from (congrArg (Value.int .i64) (show ((i : Nat) : Int) = (Sp.ixF (Sp.eqTo (x, y)) ps 0) from by (first | exact (by rw [← hh, Sp.ixF_yes hil (by assumption)]) | exact (by rw [← hh, Sp.ixF_end hge])))))
    · have h2p : ¬ ((x = ((ps.getD i (0, 0)).1) ∧ y = ((ps.getD i (0, 0)).2))) := by first | (simpa using h2) | (have h2q := h2; simp at h2q; omega) | (have h2q := bx2 h2; simp at h2q; omega)
      refine aw_sk ?_
      refine block_normal ?_
      refine then_normal ?_
      refine aw_p1 (
        .p (does_i (((i : Nat) : Int) + 1) (wrap_i64 (by omega) (by omega)) .i64) <| .a 1 2 <| .nil _ _) ?_
      refine then_normal ?_
      refine al_w [(0, sV 0 ps.length), (3, .pointer (some ⟨1, 0, none⟩)), (7, .int .i64 ((ps.length : Nat) : Int)), (8, .int .i64 (((i + 1) : Nat) : Int))] [(0, (pB ps)), (1, ⟨[.int .i64 x, .int .i64 y], 28, true, 2⟩)] ?_ (hc := (by simp [closedB, valsB, valB, List.all_eq_true, List.mem_flatMap, List.mem_range, List.mem_map, i64v, ptc, flat1]; try (intros; simp [valsB, valB, flat1]); try decide))
      exact ih1 (i + 1) (show ((i + 1) ≤ ps.length) ∧ (Sp.ixF (Sp.eqTo (x, y)) ps (i + 1) = Sp.ixF (Sp.eqTo (x, y)) ps 0) from ⟨by omega, by (rw [← hh]; exact Sp.ixF_no hil (by assumption))⟩) (show ps.length - (i + 1) < ps.length - i from by omega)
  · have h1p : ¬ ((((i : Nat) : Int) < ((ps.length : Nat) : Int))) := by first | (simpa using h1) | (have h1q := h1; simp at h1q; omega) | (have h1q := bx2 h1; simp at h1q; omega)
    have hge : ¬ i < ps.length := by omega
    refine aw_ex 0 ?_
    refine then_exit ?_
    refine then_exit ?_
    refine block_exit ?_
    refine then_normal ?_
    refine aw_p 15 (
      .a 1 2 <| .nil _ _) ?_
    refine aw_rt ?_
    exact en_ret [.int .i64 (-1)] (show (.int .i64 (-1) : Value) = (.int .i64 (Sp.ixF (Sp.eqTo (x, y)) ps 0)) from (congrArg (Value.int .i64) (show (-1) = (Sp.ixF (Sp.eqTo (x, y)) ps 0) from by (first | exact (by rw [← hh, Sp.ixF_yes hil (by assumption)]) | exact (by rw [← hh, Sp.ixF_end hge])))))
theorem minf_n (ps : List (Int × Int)) (N : Nat) (hN : ps.length = N) (hn : 1 ≤ N) (hz : N ≤ 4096) : AC Tryz.prog 55 1 [.slice (some ⟨0, 0, none⟩) N 0, .func (.func 33) #[] #[]] [(0, (pB ps))] (.agg #[.int .i64 (Sp.mnP ps (N - 1)).1, .int .i64 (Sp.mnP ps (N - 1)).2]) [(0, (pB ps))] := by
  subst hN
  exact minf_ok ps hn hz
theorem index_n (ps : List (Int × Int)) (N : Nat) (hN : ps.length = N) (hn : 1 ≤ N) (hz : N ≤ 4096) (x y : Int) : AC Tryz.prog 54 1 [.slice (some ⟨0, 0, none⟩) N 0, .agg #[.int .i64 x, .int .i64 y]] [(0, (pB ps))] (.int .i64 (Sp.ixF (Sp.eqTo (x, y)) ps 0)) [(0, (pB ps))] := by
  subst hN
  exact index_ok ps hn hz x y
end Go.Proofs.YtndkhgfecnbmnaaGreat.Am

namespace Go.Proofs.YtndkhgfecnbmnaaGreat.Am
open Go Go.Proofs
set_option maxRecDepth 100000
set_option maxHeartbeats 4000000
set_option linter.unusedVariables false
set_option linter.unusedSimpArgs false
theorem concat_ok (ps : List (Int × Int)) (m : Nat) (hm : m < ps.length) (hz : ps.length ≤ 4096) :
    AC Tryz.prog 36 2 ([sV 1 2]) [(0, (pB ps)), (1, ⟨[.slice (some ⟨0, (0 + m * 2), none⟩) (ps.length - m) 0, sV 0 m], 39, true, 1⟩)] (sV 2 ps.length) [(0, (pB ps)), (1, ⟨[.slice (some ⟨0, (0 + m * 2), none⟩) (ps.length - m) 0, sV 0 m], 39, true, 1⟩), (2, (pB (Sp.rotL ps m)))] := by
  refine ac_in Tryz.func36 (fun w0 W pin => ?_)
  refine aw_p 3 (
    .a 1 3 <| .nil _ _) ?_
  refine aw_p 7 (
    .a 1 3 <| .nil _ _) ?_
  refine aw_sq 14 15 ?_
  refine aw_p 29 (
    .a 3 3 <| .nil _ _) ?_
  refine aw_bl 0 59 ?_
  refine aw_lp 119 ?_
  refine al_round ?_
  refine aw_p 239 (
    .a 1 3 <| .nil _ _) ?_
  refine aw_sq 478 479 ?_
  refine aw_tr 956 ?_
  refine aw_sk ?_
  refine then_normal ?_
  refine aw_sq 958 959 ?_
  refine aw_bl 1 1917 ?_
  refine aw_p 3835 (
    .a 3 3 <| .nil _ _) ?_
  refine aw_p 7671 (
    .a 3 3 <| .p (does_i (0 + (((ps.length - m) : Nat) : Int)) (wrap_i64 (by omega) (by omega)) .i64) <| .a 1 3 <| .nil _ _) ?_
  refine aw_p 15343 (
    .a 1 3 <| .p (does_b false ((show (decide ((0 + (((ps.length - m) : Nat) : Int)) < 0)) = false from decide_eq_false (by omega)))) <| .nil _ _) ?_
  refine aw_fl 30687 ?_
  refine aw_sk ?_
  refine block_normal ?_
  refine then_normal ?_
  refine aw_p1 (
    .a 2 3 <| .nil _ _) ?_
  refine then_normal ?_
  refine al_round ?_
  refine aw_p 239 (
    .a 1 3 <| .nil _ _) ?_
  refine aw_sq 478 479 ?_
  refine aw_tr 956 ?_
  refine aw_sk ?_
  refine then_normal ?_
  refine aw_sq 958 959 ?_
  refine aw_bl 1 1917 ?_
  refine aw_p 3835 (
    .a 3 3 <| .nil _ _) ?_
  refine aw_p 7671 (
    .a 3 3 <| .p (does_i ((0 + (((ps.length - m) : Nat) : Int)) + ((m : Nat) : Int)) (wrap_i64 (by omega) (by omega)) .i64) <| .a 1 3 <| .nil _ _) ?_
  refine aw_p 15343 (
    .a 1 3 <| .p (does_b false ((show (decide (((0 + (((ps.length - m) : Nat) : Int)) + ((m : Nat) : Int)) < 0)) = false from decide_eq_false (by omega)))) <| .nil _ _) ?_
  refine aw_fl 30687 ?_
  refine aw_sk ?_
  refine block_normal ?_
  refine then_normal ?_
  refine aw_p1 (
    .a 2 3 <| .nil _ _) ?_
  refine then_normal ?_
  refine al_round ?_
  refine aw_p 239 (
    .a 1 3 <| .nil _ _) ?_
  refine aw_sq 478 479 ?_
  refine aw_fl 957 ?_
  refine aw_ex 0 ?_
  refine then_exit ?_
  refine then_exit ?_
  refine block_exit ?_
  refine then_normal ?_
  refine aw_p 31 (
    .a 1 3 <|
    .p (cF #[.const (.slice none 0 0), .tmp 23] #[39, 3] [.slice none 0 0, .int .i64 ((0 + (((ps.length - m) : Nat) : Int)) + ((m : Nat) : Int))] 1 [3] [] [(3, ⟨[], 28, true, 2⟩)] (sV 3 0) (grow_ok ps.length ((0 + (((ps.length - m) : Nat) : Int)) + ((m : Nat) : Int)) (by omega) (by omega) (by omega)) (.flats (by kernel_rfl)) trivial ⟨rfl, ⟨rfl, rfl, rfl, (.flats (by kernel_rfl))⟩, trivial⟩ rS) <|
    .a 1 4 <| .nil _ _) ?_
  refine aw_sq 62 63 ?_
  refine aw_p 125 (
    .a 3 4 <| .nil _ _) ?_
  refine aw_bl 2 251 ?_
  refine aw_lp 503 ?_
  refine al_round ?_
  refine aw_p 1007 (
    .a 1 4 <| .nil _ _) ?_
  refine aw_sq 2014 2015 ?_
  refine aw_tr 4028 ?_
  refine aw_sk ?_
  refine then_normal ?_
  refine aw_sq 4030 4031 ?_
  refine aw_bl 3 8061 ?_
  refine aw_p 16123 (
    .a 3 4 <| .nil _ _) ?_
  refine aw_p1 (
    .a 2 4 <|
    .p (does_apg (ps.length - m) 4 28 2 16 3 0 0 (0 + m * 2) (ps.length - m) ⟨[], 28, true, 2⟩ (pB ps) ((ps.drop m).flatMap ptc) (by kernel_rfl) (by kernel_rfl) (by kernel_rfl) (by kernel_rfl) (by kernel_rfl) (plain_pairs _) (by rw [Nat.zero_mul]; exact Nat.zero_le _) (by show _ ≤ (ps.flatMap ptc).length; rw [pairs_length]; omega) (.inl (by omega)) (by omega) (by omega) (by show List.take _ [] ++ ((ps.flatMap ptc).drop _).take _ = _; rw [cut_pairs (j := m) (k := ps.length - m) (by omega) (by omega), List.take_nil, List.nil_append, List.take_of_length_le (by simp)]) (by omega)) <|
    .a 1 5 <| .nil _ _) ?_
  refine block_normal ?_
  refine then_normal ?_
  refine aw_p1 (
    .a 2 5 <| .nil _ _) ?_
  refine then_normal ?_
  refine al_round ?_
  refine aw_p 1007 (
    .a 1 5 <| .nil _ _) ?_
  refine aw_sq 2014 2015 ?_
  refine aw_tr 4028 ?_
  refine aw_sk ?_
  refine then_normal ?_
  refine aw_sq 4030 4031 ?_
  refine aw_bl 3 8061 ?_
  refine aw_p 16123 (
    .a 3 5 <| .nil _ _) ?_
  refine aw_p1 (
    .a 2 5 <|
    .p (does_apg ps.length 2 28 2 16 4 (ps.length - m) 0 0 m (pB (ps.drop m)) (pB ps) ((Sp.rotL ps m).flatMap ptc) (by kernel_rfl) (by kernel_rfl) (by kernel_rfl) (by kernel_rfl) (by kernel_rfl) (plain_pairs _) (by show _ ≤ ((ps.drop m).flatMap ptc).length; rw [pairs_length, List.length_drop]; omega) (by show _ ≤ (ps.flatMap ptc).length; rw [pairs_length]; omega) (.inr ⟨by omega, by show ((ps.drop m).flatMap ptc).length = _; rw [pairs_length, List.length_drop]; omega⟩) (by omega) (by omega) (by show ((ps.drop m).flatMap ptc).take _ ++ ((ps.flatMap ptc).drop _).take _ = _; rw [cut_pairs (j := 0) (k := m) (by omega) (by omega), List.drop_zero, List.take_of_length_le (by rw [pairs_length, List.length_drop]; omega), ← List.flatMap_append]; rfl) (by omega)) <|
    .a 1 5 <| .nil _ _) ?_
  refine block_normal ?_
  refine then_normal ?_
  refine aw_p1 (
    .a 2 5 <| .nil _ _) ?_
  refine then_normal ?_
  refine al_round ?_
  refine aw_p 1007 (
    .a 1 5 <| .nil _ _) ?_
  refine aw_sq 2014 2015 ?_
  refine aw_fl 4029 ?_
  refine aw_ex 2 ?_
  refine then_exit ?_
  refine then_exit ?_
  refine block_exit ?_
  refine then_normal ?_
  refine aw_p 127 (
    .a 2 5 <| .nil _ _) ?_
  refine aw_rt ?_
  exact en_ret [sV 2 ps.length] (by kernel_rfl)
theorem concat_n (ps : List (Int × Int)) (N m : Nat) (hN : ps.length = N) (hm : m < N) (hz : N ≤ 4096) : AC Tryz.prog 36 2 [.slice (some ⟨1, 0, none⟩) 2 0] [(0, (pB ps)), (1, ⟨[.slice (some ⟨0, (0 + m * 2), none⟩) (N - m) 0, sV 0 m], 39, true, 1⟩)] (.slice (some ⟨2, 0, none⟩) N 0) [(0, (pB ps)), (1, ⟨[.slice (some ⟨0, (0 + m * 2), none⟩) (N - m) 0, sV 0 m], 39, true, 1⟩), (2, (pB (Sp.rotL ps m)))] := by
  subst hN
  exact concat_ok ps m hm hz
end Go.Proofs.YtndkhgfecnbmnaaGreat.Am

namespace Go.Proofs.YtndkhgfecnbmnaaGreat.Am
open Go Go.Proofs
set_option maxRecDepth 100000
set_option maxHeartbeats 4000000
set_option linter.unusedVariables false
set_option linter.unusedSimpArgs false
theorem norm_own (ps : List (Int × Int)) (m : Nat) (hn : 1 ≤ ps.length) (hz : ps.length ≤ 4096) (hm : m < ps.length) (hd : Sp.Diff ps) (hl : ∀ j, j < ps.length → Sp.befP (ps.getD j (0, 0)) (ps.getD m (0, 0)) = false) :
    AC Tryz.prog 28 1 ([sV 0 ps.length]) [(0, (pB ps))] (sV 1 ps.length) [(0, (pB ps)), (1, (pB (Sp.nrmL ps m)))] := by
  refine ac_in Tryz.func28 (fun w0 W pin => ?_)
  refine aw_p 3 (
    .a 1 2 <| .nil _ _) ?_
  refine aw_p 7 (
    .a 1 2 <| .p (cF #[.tmp 5] #[39] [sV 0 ps.length] 1 [0, 2] [(0, (pB ps))] [(0, (pB ps)), (2, (pB ps))] (sV 2 ps.length) (clone_own ps (by omega) (by omega)) (.cons rS .nil) ⟨rfl, bP, trivial⟩ ⟨rfl, bP, rfl, bP, trivial⟩ rS) <| .a 1 3 <| .nil _ _) ?_
  refine aw_sq 14 15 ?_
  refine aw_p 29 (
    .a 2 3 <| .p (does_b false ((show (((ps.length : Nat) : Int) == 0) = false from by rw [beq_eq_false_iff_ne]; omega))) <| .nil _ _) ?_
  refine aw_fl 59 ?_
  refine aw_sk ?_
  refine then_normal ?_
  refine aw_sq 30 31 ?_
  refine aw_p 61 (
    .a 1 3 <| .p (cS #[.tmp 10] #[39] [sV 2 ps.length] [2] [(2, (pB ps))] (.int .i64 (Sp.twF ps 1 0)) (twicen_own ps ps.length (rfl) (by first | omega | decide)) (.cons rS .nil) ⟨rfl, bP, trivial⟩ rF) <| .a 1 3 <| .nil _ _) ?_
  refine aw_cd 122 123 (decide ((Sp.twF ps 1 0) < 0)) (fun h1 => ?_) (fun h1 => ?_)
  · have h1p : (((Sp.twF ps 1 0) < 0)) := by first | (simpa using h1) | (have h1q := h1; simp at h1q; omega) | (have h1q := bx1 h1; simp at h1q; omega)
    have ht : Sp.twF ps 1 0 < 0 := by simpa using h1
    obtain ⟨q, hq⟩ : ∃ q, ps.length - 1 - m = q := ⟨_, rfl⟩
    refine aw_p1 (
      .a 1 3 <| .p (cF #[.tmp 13] #[39] [sV 2 ps.length] 0 [2] [(2, (pB ps))] [(2, (pB ps.reverse))] (.tuple #[]) (rev_ok ps (by omega) (by omega)) (.cons rS .nil) ⟨rfl, bP, trivial⟩ ⟨rfl, bP, trivial⟩ rF) <| .nil _ _) ?_
    refine then_normal ?_
    refine aw_p 63 (
      .a 2 3 <|
      .p (cS #[.tmp 16, .func 33] #[39, 68] [sV 2 ps.length, .func (.func 33) #[] #[]] [2] [(2, (pB ps.reverse))] (.agg #[.int .i64 ((Sp.mnP ps.reverse (ps.length - 1)).1), .int .i64 ((Sp.mnP ps.reverse (ps.length - 1)).2)]) (minf_n ps.reverse ps.length (by first | rfl | simp) (by omega) (by omega)) (.cons rS (.cons rF .nil)) ⟨rfl, bP, trivial⟩ rF) <|
      .p (does_int (n' := ((q : Nat) : Int)) (cS #[.tmp 15, .tmp 17] #[39, 28] [sV 2 ps.length, .agg #[.int .i64 ((Sp.mnP ps.reverse (ps.length - 1)).1), .int .i64 ((Sp.mnP ps.reverse (ps.length - 1)).2)]] [2] [(2, (pB ps.reverse))] (.int .i64 (Sp.ixF (Sp.eqTo ((Sp.mnP ps.reverse (ps.length - 1)).1, (Sp.mnP ps.reverse (ps.length - 1)).2)) ps.reverse 0)) (index_n ps.reverse ps.length (by first | rfl | simp) (by omega) (by omega) ((Sp.mnP ps.reverse (ps.length - 1)).1) ((Sp.mnP ps.reverse (ps.length - 1)).2)) (.cons rS (.cons rF .nil)) ⟨rfl, bP, trivial⟩ rF) ((Sp.ix_rev hm hd hl hq))) <|
      .a 1 3 <| .nil _ _) ?_
    refine aw_d 127 (
      .a 2 3 <|
      .p (does_val (v' := .slice (some ⟨2, (0 + q * 2), none⟩) (ps.length - q) 0) (does_slice (t := 39) (x := .tmp 19) (lo := some (.tmp 20)) (hi := none) (k := 2) (off := 0) (n := ps.length) (c := 0) (z := 2) (l := ((q : Nat) : Int)) (h := ((ps.length : Nat) : Int)) (m := (ps.length - q)) (b := (pB ps.reverse)) (by kernel_rfl) (by kernel_rfl) (by kernel_rfl) (by kernel_rfl) (by kernel_rfl) (by kernel_rfl) (by kernel_rfl) (by kernel_rfl) (by omega) (by omega) (by omega) (by omega)) (by kernel_rfl)) <|
      .a 2 3 <|
      .p (does_val (v' := sV 2 q) (does_slice (t := 39) (x := .tmp 22) (lo := none) (hi := some (.tmp 23)) (k := 2) (off := 0) (n := ps.length) (c := 0) (z := 2) (l := 0) (h := ((q : Nat) : Int)) (m := q) (b := (pB ps.reverse)) (by kernel_rfl) (by kernel_rfl) (by kernel_rfl) (by kernel_rfl) (by kernel_rfl) (by kernel_rfl) (by kernel_rfl) (by kernel_rfl) (by omega) (by omega) (by omega) (by omega)) (by kernel_rfl)) <|
      .a 1 3 <|
      .p (cF #[.tmp 25] #[24] [sV 3 2] 1 [2, 3, 4] [(2, (pB ps.reverse)), (3, ⟨[.slice (some ⟨2, (0 + q * 2), none⟩) (ps.length - q) 0, sV 2 q], 39, true, 1⟩)] [(2, (pB ps.reverse)), (3, ⟨[.slice (some ⟨2, (0 + q * 2), none⟩) (ps.length - q) 0, sV 2 q], 39, true, 1⟩), (4, (pB (Sp.rotL ps.reverse q)))] (sV 4 ps.length) (concat_n ps.reverse ps.length q (by first | rfl | simp) (by omega) (by omega)) (.cons rS .nil) ⟨rfl, bP, rfl, ⟨rfl, rfl, rfl, (.cons rS (.cons rS .nil))⟩, trivial⟩ ⟨rfl, bP, rfl, ⟨rfl, rfl, rfl, (.cons rS (.cons rS .nil))⟩, rfl, bP, trivial⟩ rS) <|
      .a 1 5 <| .nil _ _) ?_
    refine aw_w [(0, sV 0 ps.length), (2, sV 4 ps.length), (3, sV 2 ps.length), (4, .int .i64 ((q : Nat) : Int)), (5, sV 0 ps.length), (6, sV 2 ps.length), (7, sV 2 ps.length), (8, .int .i64 ((ps.length : Nat) : Int)), (9, .bool false), (10, sV 2 ps.length), (11, .int .i64 (Sp.twF ps 1 0)), (12, .bool (decide ((Sp.twF ps 1 0) < 0))), (13, sV 2 ps.length), (15, sV 2 ps.length), (16, sV 2 ps.length), (17, .agg #[.int .i64 ((Sp.mnP ps.reverse (ps.length - 1)).1), .int .i64 ((Sp.mnP ps.reverse (ps.length - 1)).2)]), (18, .int .i64 ((q : Nat) : Int)), (19, sV 2 ps.length), (20, .int .i64 ((q : Nat) : Int)), (21, .slice (some ⟨2, (0 + q * 2), none⟩) (ps.length - q) 0), (22, sV 2 ps.length), (23, .int .i64 ((q : Nat) : Int)), (24, sV 2 q), (25, sV 3 2), (26, sV 4 ps.length)] [(0, (pB ps)), (2, (pB ps.reverse)), (3, ⟨[.slice (some ⟨2, (0 + q * 2), none⟩) (ps.length - q) 0, sV 2 q], 39, true, 1⟩), (4, (pB (Sp.nrmL ps m)))] ?_ (by kernel_rfl) (by rw [Sp.nrm_rev ht hq]; kernel_rfl) (hc := (by simp [closedB, valsB, valB, List.all_eq_true, List.mem_flatMap, List.mem_range, List.mem_map, i64v, ptc, flat1]; try (intros; simp [valsB, valB, flat1]); try decide))
    refine aw_r [(1, 4)] [(2, sV 4 ps.length)] [(0, (pB ps)), (4, (pB (Sp.nrmL ps m)))] [(2, sV 1 ps.length)] [(0, (pB ps)), (1, (pB (Sp.nrmL ps m)))] ?_ ⟨rfl, (rK rfl), trivial⟩ ⟨rfl, ⟨rfl, rfl, rfl, (.flats (flats_pair _))⟩, rfl, ⟨rfl, rfl, rfl, (.flats (flats_pair _))⟩, trivial⟩
    refine aw_rt ?_
    exact en_ret [sV 1 ps.length] (by kernel_rfl)
  · have h1p : ¬ (((Sp.twF ps 1 0) < 0)) := by first | (simpa using h1) | (have h1q := h1; simp at h1q; omega) | (have h1q := bx2 h1; simp at h1q; omega)
    have ht : ¬ Sp.twF ps 1 0 < 0 := by simpa using h1
    obtain ⟨q, hq⟩ : ∃ q, ps.length - 1 - m = q := ⟨_, rfl⟩
    refine aw_sk ?_
    refine then_normal ?_
    refine aw_p 63 (
      .a 2 3 <|
      .p (cS #[.tmp 16, .func 33] #[39, 68] [sV 2 ps.length, .func (.func 33) #[] #[]] [2] [(2, (pB ps))] (.agg #[.int .i64 ((Sp.mnP ps (ps.length - 1)).1), .int .i64 ((Sp.mnP ps (ps.length - 1)).2)]) (minf_n ps ps.length (by first | rfl | simp) (by omega) (by omega)) (.cons rS (.cons rF .nil)) ⟨rfl, bP, trivial⟩ rF) <|
      .p (does_int (n' := ((m : Nat) : Int)) (cS #[.tmp 15, .tmp 17] #[39, 28] [sV 2 ps.length, .agg #[.int .i64 ((Sp.mnP ps (ps.length - 1)).1), .int .i64 ((Sp.mnP ps (ps.length - 1)).2)]] [2] [(2, (pB ps))] (.int .i64 (Sp.ixF (Sp.eqTo ((Sp.mnP ps (ps.length - 1)).1, (Sp.mnP ps (ps.length - 1)).2)) ps 0)) (index_n ps ps.length (by first | rfl | simp) (by omega) (by omega) ((Sp.mnP ps (ps.length - 1)).1) ((Sp.mnP ps (ps.length - 1)).2)) (.cons rS (.cons rF .nil)) ⟨rfl, bP, trivial⟩ rF) ((Sp.ix_plain hm hd hl))) <|
      .a 1 3 <| .nil _ _) ?_
    refine aw_d 127 (
      .a 2 3 <|
      .p (does_val (v' := .slice (some ⟨2, (0 + m * 2), none⟩) (ps.length - m) 0) (does_slice (t := 39) (x := .tmp 19) (lo := some (.tmp 20)) (hi := none) (k := 2) (off := 0) (n := ps.length) (c := 0) (z := 2) (l := ((m : Nat) : Int)) (h := ((ps.length : Nat) : Int)) (m := (ps.length - m)) (b := (pB ps)) (by kernel_rfl) (by kernel_rfl) (by kernel_rfl) (by kernel_rfl) (by kernel_rfl) (by kernel_rfl) (by kernel_rfl) (by kernel_rfl) (by omega) (by omega) (by omega) (by omega)) (by kernel_rfl)) <|
      .a 2 3 <|
      .p (does_val (v' := sV 2 m) (does_slice (t := 39) (x := .tmp 22) (lo := none) (hi := some (.tmp 23)) (k := 2) (off := 0) (n := ps.length) (c := 0) (z := 2) (l := 0) (h := ((m : Nat) : Int)) (m := m) (b := (pB ps)) (by kernel_rfl) (by kernel_rfl) (by kernel_rfl) (by kernel_rfl) (by kernel_rfl) (by kernel_rfl) (by kernel_rfl) (by kernel_rfl) (by omega) (by omega) (by omega) (by omega)) (by kernel_rfl)) <|
      .a 1 3 <|
      .p (cF #[.tmp 25] #[24] [sV 3 2] 1 [2, 3, 4] [(2, (pB ps)), (3, ⟨[.slice (some ⟨2, (0 + m * 2), none⟩) (ps.length - m) 0, sV 2 m], 39, true, 1⟩)] [(2, (pB ps)), (3, ⟨[.slice (some ⟨2, (0 + m * 2), none⟩) (ps.length - m) 0, sV 2 m], 39, true, 1⟩), (4, (pB (Sp.rotL ps m)))] (sV 4 ps.length) (concat_n ps ps.length m (by first | rfl | simp) (by omega) (by omega)) (.cons rS .nil) ⟨rfl, bP, rfl, ⟨rfl, rfl, rfl, (.cons rS (.cons rS .nil))⟩, trivial⟩ ⟨rfl, bP, rfl, ⟨rfl, rfl, rfl, (.cons rS (.cons rS .nil))⟩, rfl, bP, trivial⟩ rS) <|
      .a 1 5 <| .nil _ _) ?_
    refine aw_w [(0, sV 0 ps.length), (2, sV 4 ps.length), (3, sV 2 ps.length), (4, .int .i64 ((m : Nat) : Int)), (5, sV 0 ps.length), (6, sV 2 ps.length), (7, sV 2 ps.length), (8, .int .i64 ((ps.length : Nat) : Int)), (9, .bool false), (10, sV 2 ps.length), (11, .int .i64 (Sp.twF ps 1 0)), (12, .bool (decide ((Sp.twF ps 1 0) < 0))), (15, sV 2 ps.length), (16, sV 2 ps.length), (17, .agg #[.int .i64 ((Sp.mnP ps (ps.length - 1)).1), .int .i64 ((Sp.mnP ps (ps.length - 1)).2)]), (18, .int .i64 ((m : Nat) : Int)), (19, sV 2 ps.length), (20, .int .i64 ((m : Nat) : Int)), (21, .slice (some ⟨2, (0 + m * 2), none⟩) (ps.length - m) 0), (22, sV 2 ps.length), (23, .int .i64 ((m : Nat) : Int)), (24, sV 2 m), (25, sV 3 2), (26, sV 4 ps.length)] [(0, (pB ps)), (2, (pB ps)), (3, ⟨[.slice (some ⟨2, (0 + m * 2), none⟩) (ps.length - m) 0, sV 2 m], 39, true, 1⟩), (4, (pB (Sp.nrmL ps m)))] ?_ (by kernel_rfl) (by rw [Sp.nrm_pl ht]; kernel_rfl) (hc := (by simp [closedB, valsB, valB, List.all_eq_true, List.mem_flatMap, List.mem_range, List.mem_map, i64v, ptc, flat1]; try (intros; simp [valsB, valB, flat1]); try decide))
    refine aw_r [(1, 4)] [(2, sV 4 ps.length)] [(0, (pB ps)), (4, (pB (Sp.nrmL ps m)))] [(2, sV 1 ps.length)] [(0, (pB ps)), (1, (pB (Sp.nrmL ps m)))] ?_ ⟨rfl, (rK rfl), trivial⟩ ⟨rfl, ⟨rfl, rfl, rfl, (.flats (flats_pair _))⟩, rfl, ⟨rfl, rfl, rfl, (.flats (flats_pair _))⟩, trivial⟩
    refine aw_rt ?_
    exact en_ret [sV 1 ps.length] (by kernel_rfl)
theorem norm_n (ps qs : List (Int × Int)) (m N : Nat) (hN : ps.length = N) (hn : 1 ≤ N) (hz : N ≤ 4096) (hm : m < N) (hd : Sp.Diff ps) (hl : Sp.Least ps m) (e : Sp.nrmL ps m = qs) : AC Tryz.prog 28 1 [.slice (some ⟨0, 0, none⟩) N 0] [(0, (pB ps))] (.slice (some ⟨1, 0, none⟩) N 0) [(0, (pB ps)), (1, (pB qs))] := by
  subst hN
  subst e
  exact norm_own ps m hn hz hm hd hl
end Go.Proofs.YtndkhgfecnbmnaaGreat.Am

namespace Go.Proofs.YtndkhgfecnbmnaaGreat.Am
open Go Go.Proofs
set_option maxRecDepth 100000
set_option maxHeartbeats 4000000
set_option linter.unusedVariables false
set_option linter.unusedSimpArgs false
theorem revtail_ok (x y r : Int) :
    AC Tryz.prog 29 1 ([.slice (some ⟨0, 2, none⟩) 3 0]) [(0, ⟨[.int .i64 (x - r), .int .i64 (y - r), .int .i64 (x + r), .int .i64 (y - r), .int .i64 (x + r), .int .i64 (y + r), .int .i64 (x - r), .int .i64 (y + r)], 28, true, 2⟩)] (.tuple #[]) [(0, ⟨[.int .i64 (x - r), .int .i64 (y - r), .int .i64 (x - r), .int .i64 (y + r), .int .i64 (x + r), .int .i64 (y + r), .int .i64 (x + r), .int .i64 (y - r)], 28, true, 2⟩)] := by
  refine ac_in Tryz.func29 (fun w0 W pin => ?_)
  refine aw_p 3 (
    .a 5 1 <| .nil _ _) ?_
  refine aw_bl 0 7 ?_
  refine aw_lp 15 ?_
  refine al_round ?_
  refine aw_sq 30 31 ?_
  refine aw_p 61 (
    .a 3 1 <| .nil _ _) ?_
  refine aw_tr 122 ?_
  refine aw_sk ?_
  refine then_normal ?_
  refine aw_sq 62 63 ?_
  refine aw_bl 1 125 ?_
  refine aw_d1 (
    .a 16 1 <| .nil _ _) ?_
  refine block_normal ?_
  refine then_normal ?_
  refine aw_p1 (
    .a 6 1 <| .nil _ _) ?_
  refine then_normal ?_
  refine al_round ?_
  refine aw_sq 30 31 ?_
  refine aw_p 61 (
    .a 3 1 <| .nil _ _) ?_
  refine aw_fl 123 ?_
  refine aw_ex 0 ?_
  refine then_exit ?_
  refine then_exit ?_
  refine block_exit ?_
  exact en_normal [] (by kernel_rfl)
theorem cmpf_ok (R1 R2 : List (Int × Int)) (z1 : 1 ≤ R1.length) (z2 : 1 ≤ R2.length) (y1 : R1.length ≤ 200) (y2 : R2.length ≤ 200) (o2 : Sp.pcmp (R2.getD 0 (0, 0)).1 (R2.getD 0 (0, 0)).2 (R1.getD 0 (0, 0)).1 (R1.getD 0 (0, 0)).2 = 1) :
    AC Tryz.prog 32 2 ([sV 0 R2.length, sV 1 R1.length, .func (.func 33) #[] #[]]) [(0, (pB R2)), (1, (pB R1))] (.int .i64 1) [(0, (pB R2)), (1, (pB R1))] := by
  refine ac_in Tryz.func32 (fun w0 W pin => ?_)
  refine aw_p 3 (
    .a 1 2 <| .nil _ _) ?_
  refine aw_sq 6 7 ?_
  refine aw_p 13 (
    .a 3 2 <| .nil _ _) ?_
  refine aw_bl 0 27 ?_
  refine aw_lp 55 ?_
  refine al_round ?_
  refine aw_p 111 (
    .p (does_b true ((show (decide (0 < ((R2.length : Nat) : Int))) = true from decide_eq_true (by omega)))) <| .nil _ _) ?_
  refine aw_sq 222 223 ?_
  refine aw_tr 444 ?_
  refine aw_sk ?_
  refine then_normal ?_
  refine aw_sq 446 447 ?_
  refine aw_bl 1 893 ?_
  refine aw_p 1787 (
    .a 1 2 <| .p (does_indexSlice (t := 39) (x := .tmp 11) (y := .tmp 13) (k := 0) (off := 0) (n := R2.length) (c := 0) (z := 2) (kd := .i64) (j := 0) (by kernel_rfl) (by kernel_rfl) (by kernel_rfl) (by kernel_rfl) (by kernel_rfl) (by omega) (by omega)) <|
    .p (does_load (t := 28) (x := .tmp 16) (k := 0) (off := 0) (b := (pB R2)) (v := .agg #[.int .i64 ((R2.getD 0 (0, 0)).1), .int .i64 ((R2.getD 0 (0, 0)).2)]) (by kernel_rfl) (by kernel_rfl) (by kernel_rfl) (ldV_pair (j := 0) (by kernel_rfl) (by kernel_rfl) (by omega) (by omega))) <| .a 3 2 <| .nil _ _) ?_
  refine aw_sq 3574 3575 ?_
  refine aw_p 7149 (
    .a 3 3 <| .p (does_b false ((show (decide (0 ≥ ((R1.length : Nat) : Int))) = false from decide_eq_false (by omega)))) <| .nil _ _) ?_
  refine aw_fl 14299 ?_
  refine aw_sk ?_
  refine then_normal ?_
  refine aw_p 7151 (
    .a 2 3 <| .p (does_indexSlice (t := 39) (x := .tmp 22) (y := .tmp 23) (k := 1) (off := 0) (n := R1.length) (c := 0) (z := 2) (kd := .i64) (j := 0) (by kernel_rfl) (by kernel_rfl) (by kernel_rfl) (by kernel_rfl) (by kernel_rfl) (by omega) (by omega)) <|
    .p (does_load (t := 28) (x := .tmp 24) (k := 1) (off := 0) (b := (pB R1)) (v := .agg #[.int .i64 ((R1.getD 0 (0, 0)).1), .int .i64 ((R1.getD 0 (0, 0)).2)]) (by kernel_rfl) (by kernel_rfl) (by kernel_rfl) (ldV_pair (j := 0) (by kernel_rfl) (by kernel_rfl) (by omega) (by omega))) <| .a 2 3 <| .nil _ _) ?_
  refine aw_p 14303 (
    .a 3 4 <| .p (does_c ((by have h := pcmp_ok (R2.getD 0 (0, 0)).1 (R2.getD 0 (0, 0)).2 (R1.getD 0 (0, 0)).1 (R1.getD 0 (0, 0)).2; rw [o2] at h; exact h))) <| .a 1 4 <| .nil _ _) ?_
  refine aw_p 28607 (
    .a 2 4 <| .nil _ _) ?_
  refine aw_tr 57214 ?_
  refine aw_p 114429 (
    .a 2 4 <| .nil _ _) ?_
  refine aw_rt ?_
  refine block_ret ?_
  refine then_ret ?_
  refine then_ret ?_
  refine block_ret ?_
  refine then_ret ?_
  exact en_ret [.int .i64 1] (by kernel_rfl)
theorem nrm1_ok (R1 R2 : List (Int × Int)) (z1 : 1 ≤ R1.length) (z2 : 1 ≤ R2.length) (y1 : R1.length ≤ 200) (y2 : R2.length ≤ 200) (o2 : Sp.pcmp (R2.getD 0 (0, 0)).1 (R2.getD 0 (0, 0)).2 (R1.getD 0 (0, 0)).1 (R1.getD 0 (0, 0)).2 = 1) :
    AC Tryz.prog 31 2 ([sV 0 R2.length, sV 1 R1.length]) [(0, (pB R2)), (1, (pB R1))] (.int .i64 1) [(0, (pB R2)), (1, (pB R1))] := by
  refine ac_in Tryz.func31 (fun w0 W pin => ?_)
  refine aw_p 3 (
    .a 1 2 <| .nil _ _) ?_
  refine aw_p 7 (
    .a 2 2 <| .p (cS #[.tmp 5, .tmp 6, .func 33] #[39, 39, 68] [sV 0 R2.length, sV 1 R1.length, .func (.func 33) #[] #[]] [0, 1] [(0, (pB R2)), (1, (pB R1))] (.int .i64 1) (cmpf_ok R1 R2 z1 z2 y1 y2 o2) (.cons rS (.cons rS (.cons rF .nil))) ⟨rfl, bP, rfl, bP, trivial⟩ rF) <| .a 1 2 <| .nil _ _) ?_
  refine aw_rt ?_
  exact en_ret [.int .i64 1] (by kernel_rfl)
end Go.Proofs.YtndkhgfecnbmnaaGreat.Am

namespace Go.Proofs.YtndkhgfecnbmnaaGreat.Am
open Go Go.Proofs
set_option maxRecDepth 100000
set_option maxHeartbeats 4000000
set_option linter.unusedVariables false
set_option linter.unusedSimpArgs false
theorem ins_1 (R1 : List (Int × Int)) (zR1 : 1 ≤ R1.length ∧ R1.length ≤ 200)  :
    AC Tryz.prog 78 2 ([sV 0 1, .int .i64 0, .int .i64 1, .func (.func 31) #[] #[]]) [(0, ⟨[sV 1 R1.length], 39, true, 1⟩), (1, (pB R1))] (.tuple #[]) [(0, ⟨[sV 1 R1.length], 39, true, 1⟩), (1, (pB R1))] := by
  refine ac_in Tryz.func78 (fun w0 W pin => ?_)
  refine aw_p 3 (
    .a 3 2 <| .nil _ _) ?_
  refine aw_bl 0 7 ?_
  refine aw_lp 15 ?_
  refine al_round ?_
  refine aw_sq 30 31 ?_
  refine aw_p 61 (
    .a 3 2 <| .nil _ _) ?_
  refine aw_fl 123 ?_
  refine aw_ex 0 ?_
  refine then_exit ?_
  refine then_exit ?_
  refine block_exit ?_
  exact en_normal [] (by kernel_rfl)
theorem pdq_1 (R1 : List (Int × Int)) (zR1 : 1 ≤ R1.length ∧ R1.length ≤ 200)  :
    AC Tryz.prog 56 2 ([sV 0 1, .int .i64 0, .int .i64 1, .int .i64 1, .func (.func 31) #[] #[]]) [(0, ⟨[sV 1 R1.length], 39, true, 1⟩), (1, (pB R1))] (.tuple #[]) [(0, ⟨[sV 1 R1.length], 39, true, 1⟩), (1, (pB R1))] := by
  refine ac_in Tryz.func56 (fun w0 W pin => ?_)
  refine aw_p 3 (
    .a 1 2 <| .nil _ _) ?_
  refine aw_p 7 (
    .a 1 2 <| .nil _ _) ?_
  refine aw_bl 0 15 ?_
  refine aw_lp 31 ?_
  refine al_round ?_
  refine aw_bl 1 63 ?_
  refine aw_p 127 (
    .a 4 2 <| .nil _ _) ?_
  refine aw_sq 254 255 ?_
  refine aw_p 509 (
    .a 2 2 <| .nil _ _) ?_
  refine aw_tr 1018 ?_
  refine aw_p 2037 (
    .a 4 2 <|
    .p (cS #[.tmp 26, .tmp 27, .tmp 28, .tmp 29] #[24, 3, 3, 69] [sV 0 1, .int .i64 0, .int .i64 1, .func (.func 31) #[] #[]] [0, 1] [(0, ⟨[sV 1 R1.length], 39, true, 1⟩), (1, (pB R1))] (.tuple #[]) (ins_1 R1 zR1) (.cons rS (.cons rF (.cons rF (.cons rF .nil)))) ⟨rfl, ⟨rfl, rfl, rfl, (.cons rS .nil)⟩, rfl, bP, trivial⟩ rF) <| .nil _ _) ?_
  refine aw_rt ?_
  refine then_ret ?_
  refine block_ret ?_
  refine then_ret ?_
  refine block_ret ?_
  exact en_ret [] (by kernel_rfl)
theorem auy_1  :
    AC Tryz.prog 87 0 ([.int .u64 1]) [] (.int .i64 1) [] := by
  refine ac_in Tryz.func87 (fun w0 W pin => ?_)
  refine aw_p 3 (
    .a 1 1 <| .nil _ _) ?_
  refine aw_sq 6 7 ?_
  refine aw_p 13 (
    .a 2 1 <| .nil _ _) ?_
  refine aw_fl 27 ?_
  refine aw_sk ?_
  refine then_normal ?_
  refine aw_sq 14 15 ?_
  refine aw_p 29 (
    .a 2 1 <| .nil _ _) ?_
  refine aw_fl 59 ?_
  refine aw_sk ?_
  refine then_normal ?_
  refine aw_sq 30 31 ?_
  refine aw_p 61 (
    .a 2 1 <| .nil _ _) ?_
  refine aw_fl 123 ?_
  refine aw_sk ?_
  refine then_normal ?_
  refine aw_p 63 (
    .a 3 1 <|
    .p (does_val (v' := .int .u8 1) (does_ixs (s := (ByteArray.mk #[0, 1, 2, 2, 3, 3, 3, 3, 4, 4, 4, 4, 4, 4, 4, 4, 5, 5, 5, 5, 5, 5, 5, 5, 5, 5, 5, 5, 5, 5, 5, 5, 6, 6, 6, 6, 6, 6, 6, 6, 6, 6, 6, 6, 6, 6, 6, 6, 6, 6, 6, 6, 6, 6, 6, 6, 6, 6, 6, 6, 6, 6, 6, 6, 7, 7, 7, 7, 7, 7, 7, 7, 7, 7, 7, 7, 7, 7, 7, 7, 7, 7, 7, 7, 7, 7, 7, 7, 7, 7, 7, 7, 7, 7, 7, 7, 7, 7, 7, 7, 7, 7, 7, 7, 7, 7, 7, 7, 7, 7, 7, 7, 7, 7, 7, 7, 7, 7, 7, 7, 7, 7, 7, 7, 7, 7, 7, 7, 8, 8, 8, 8, 8, 8, 8, 8, 8, 8, 8, 8, 8, 8, 8, 8, 8, 8, 8, 8, 8, 8, 8, 8, 8, 8, 8, 8, 8, 8, 8, 8, 8, 8, 8, 8, 8, 8, 8, 8, 8, 8, 8, 8, 8, 8, 8, 8, 8, 8, 8, 8, 8, 8, 8, 8, 8, 8, 8, 8, 8, 8, 8, 8, 8, 8, 8, 8, 8, 8, 8, 8, 8, 8, 8, 8, 8, 8, 8, 8, 8, 8, 8, 8, 8, 8, 8, 8, 8, 8, 8, 8, 8, 8, 8, 8, 8, 8, 8, 8, 8, 8, 8, 8, 8, 8, 8, 8, 8, 8, 8, 8, 8, 8, 8, 8, 8, 8, 8, 8, 8, 8, 8, 8, 8, 8, 8, 8])) (j := 1) (b := (1 : UInt8)) (by decide) (by kernel_rfl)) (by kernel_rfl)) <|
    .a 3 1 <| .nil _ _) ?_
  refine aw_rt ?_
  exact en_ret [.int .i64 1] (by kernel_rfl)
theorem auy_2  :
    AC Tryz.prog 57 0 ([.int .u64 1]) [] (.int .i64 1) [] := by
  refine ac_in Tryz.func57 (fun w0 W pin => ?_)
  refine aw_p 3 (
    .a 1 1 <| .nil _ _) ?_
  refine aw_sq 6 7 ?_
  refine aw_fl 13 ?_
  refine aw_sk ?_
  refine then_normal ?_
  refine aw_p 15 (
    .a 1 1 <| .p (does_c (auy_1)) <| .a 1 1 <| .nil _ _) ?_
  refine aw_rt ?_
  exact en_ret [.int .i64 1] (by kernel_rfl)
theorem srt_1 (R1 : List (Int × Int)) (zR1 : 1 ≤ R1.length ∧ R1.length ≤ 200)  :
    AC Tryz.prog 30 2 ([sV 0 1, .func (.func 31) #[] #[]]) [(0, ⟨[sV 1 R1.length], 39, true, 1⟩), (1, (pB R1))] (.tuple #[]) [(0, ⟨[sV 1 R1.length], 39, true, 1⟩), (1, (pB R1))] := by
  refine ac_in Tryz.func30 (fun w0 W pin => ?_)
  refine aw_p 3 (
    .a 3 2 <| .nil _ _) ?_
  refine aw_p1 (
    .a 4 2 <| .p (does_c (auy_2)) <| .a 1 2 <|
    .p (cS #[.tmp 7, .const (.int .i64 0), .tmp 8, .tmp 11, .tmp 12] #[24, 3, 3, 3, 69] [sV 0 1, .int .i64 0, .int .i64 1, .int .i64 1, .func (.func 31) #[] #[]] [0, 1] [(0, ⟨[sV 1 R1.length], 39, true, 1⟩), (1, (pB R1))] (.tuple #[]) (pdq_1 R1 zR1) (.cons rS (.cons rF (.cons rF (.cons rF (.cons rF .nil))))) ⟨rfl, ⟨rfl, rfl, rfl, (.cons rS .nil)⟩, rfl, bP, trivial⟩ rF) <| .nil _ _) ?_
  exact en_normal [] (by kernel_rfl)
theorem ins_2 (R1 R2 : List (Int × Int)) (zR1 : 1 ≤ R1.length ∧ R1.length ≤ 200) (zR2 : 1 ≤ R2.length ∧ R2.length ≤ 200) (o2 : Sp.pcmp (R2.getD 0 (0, 0)).1 (R2.getD 0 (0, 0)).2 (R1.getD 0 (0, 0)).1 (R1.getD 0 (0, 0)).2 = 1) :
    AC Tryz.prog 78 3 ([sV 0 2, .int .i64 0, .int .i64 2, .func (.func 31) #[] #[]]) [(0, ⟨[sV 1 R1.length, sV 2 R2.length], 39, true, 1⟩), (1, (pB R1)), (2, (pB R2))] (.tuple #[]) [(0, ⟨[sV 1 R1.length, sV 2 R2.length], 39, true, 1⟩), (1, (pB R1)), (2, (pB R2))] := by
  refine ac_in Tryz.func78 (fun w0 W pin => ?_)
  refine aw_p 3 (
    .a 3 3 <| .nil _ _) ?_
  refine aw_bl 0 7 ?_
  refine aw_lp 15 ?_
  refine al_round ?_
  refine aw_sq 30 31 ?_
  refine aw_p 61 (
    .a 3 3 <| .nil _ _) ?_
  refine aw_tr 122 ?_
  refine aw_sk ?_
  refine then_normal ?_
  refine aw_sq 62 63 ?_
  refine aw_bl 1 125 ?_
  refine aw_p 251 (
    .a 2 3 <| .nil _ _) ?_
  refine aw_bl 2 503 ?_
  refine aw_lp 1007 ?_
  refine al_round ?_
  refine aw_sq 2014 2015 ?_
  refine aw_d 4029 (
    .a 14 3 <|
    .p (does_callB (x := .tmp 22) (ars := #[.tmp 26, .tmp 31]) (ats := #[39, 39]) (g := 31) (vs := [sV 2 R2.length, sV 1 R1.length]) (m := 2) (r := 0) (firsts := #[]) (caps := #[]) (args0 := [sV 0 R2.length, sV 1 R1.length]) (pre0 := [(0, (pB R2)), (1, (pB R1))]) (post0 := [(0, (pB R2)), (1, (pB R1))]) (pre := [(2, (pB R2)), (1, (pB R1))]) (post := [(2, (pB R2)), (1, (pB R1))]) (v0 := .int .i64 1) (v := .int .i64 1) [2, 1] (by kernel_rfl) (by kernel_rfl) (by kernel_rfl) (by kernel_rfl) (nrm1_ok R1 R2 zR1.1 zR2.1 zR1.2 zR2.2 o2) (.cons rS (.cons rS .nil)) ⟨rfl, bP, rfl, bP, trivial⟩ (by kernel_rfl) (by kernel_rfl) (by kernel_rfl) ⟨rfl, bP, rfl, bP, trivial⟩ rF) <|
    .a 2 3 <| .nil _ _) ?_
  refine aw_fl 8059 ?_
  refine aw_ex 2 ?_
  refine then_exit ?_
  refine then_exit ?_
  refine block_exit ?_
  refine block_normal ?_
  refine then_normal ?_
  refine aw_p1 (
    .a 3 3 <| .nil _ _) ?_
  refine then_normal ?_
  refine al_round ?_
  refine aw_sq 30 31 ?_
  refine aw_p 61 (
    .a 3 3 <| .nil _ _) ?_
  refine aw_fl 123 ?_
  refine aw_ex 0 ?_
  refine then_exit ?_
  refine then_exit ?_
  refine block_exit ?_
  exact en_normal [] (by kernel_rfl)
theorem pdq_2 (R1 R2 : List (Int × Int)) (zR1 : 1 ≤ R1.length ∧ R1.length ≤ 200) (zR2 : 1 ≤ R2.length ∧ R2.length ≤ 200) (o2 : Sp.pcmp (R2.getD 0 (0, 0)).1 (R2.getD 0 (0, 0)).2 (R1.getD 0 (0, 0)).1 (R1.getD 0 (0, 0)).2 = 1) :
    AC Tryz.prog 56 3 ([sV 0 2, .int .i64 0, .int .i64 2, .int .i64 2, .func (.func 31) #[] #[]]) [(0, ⟨[sV 1 R1.length, sV 2 R2.length], 39, true, 1⟩), (1, (pB R1)), (2, (pB R2))] (.tuple #[]) [(0, ⟨[sV 1 R1.length, sV 2 R2.length], 39, true, 1⟩), (1, (pB R1)), (2, (pB R2))] := by
  refine ac_in Tryz.func56 (fun w0 W pin => ?_)
  refine aw_p 3 (
    .a 1 3 <| .nil _ _) ?_
  refine aw_p 7 (
    .a 1 3 <| .nil _ _) ?_
  refine aw_bl 0 15 ?_
  refine aw_lp 31 ?_
  refine al_round ?_
  refine aw_bl 1 63 ?_
  refine aw_p 127 (
    .a 4 3 <| .nil _ _) ?_
  refine aw_sq 254 255 ?_
  refine aw_p 509 (
    .a 2 3 <| .nil _ _) ?_
  refine aw_tr 1018 ?_
  refine aw_p 2037 (
    .a 4 3 <|
    .p (cS #[.tmp 26, .tmp 27, .tmp 28, .tmp 29] #[24, 3, 3, 69] [sV 0 2, .int .i64 0, .int .i64 2, .func (.func 31) #[] #[]] [0, 1, 2] [(0, ⟨[sV 1 R1.length, sV 2 R2.length], 39, true, 1⟩), (1, (pB R1)), (2, (pB R2))] (.tuple #[]) (ins_2 R1 R2 zR1 zR2 o2) (.cons rS (.cons rF (.cons rF (.cons rF .nil)))) ⟨rfl, ⟨rfl, rfl, rfl, (.cons rS (.cons rS .nil))⟩, rfl, bP, rfl, bP, trivial⟩ rF) <| .nil _ _) ?_
  refine aw_rt ?_
  refine then_ret ?_
  refine block_ret ?_
  refine then_ret ?_
  refine block_ret ?_
  exact en_ret [] (by kernel_rfl)
theorem auy_3  :
    AC Tryz.prog 87 0 ([.int .u64 2]) [] (.int .i64 2) [] := by
  refine ac_in Tryz.func87 (fun w0 W pin => ?_)
  refine aw_p 3 (
    .a 1 1 <| .nil _ _) ?_
  refine aw_sq 6 7 ?_
  refine aw_p 13 (
    .a 2 1 <| .nil _ _) ?_
  refine aw_fl 27 ?_
  refine aw_sk ?_
  refine then_normal ?_
  refine aw_sq 14 15 ?_
  refine aw_p 29 (
    .a 2 1 <| .nil _ _) ?_
  refine aw_fl 59 ?_
  refine aw_sk ?_
  refine then_normal ?_
  refine aw_sq 30 31 ?_
  refine aw_p 61 (
    .a 2 1 <| .nil _ _) ?_
  refine aw_fl 123 ?_
  refine aw_sk ?_
  refine then_normal ?_
  refine aw_p 63 (
    .a 3 1 <|
    .p (does_val (v' := .int .u8 2) (does_ixs (s := (ByteArray.mk #[0, 1, 2, 2, 3, 3, 3, 3, 4, 4, 4, 4, 4, 4, 4, 4, 5, 5, 5, 5, 5, 5, 5, 5, 5, 5, 5, 5, 5, 5, 5, 5, 6, 6, 6, 6, 6, 6, 6, 6, 6, 6, 6, 6, 6, 6, 6, 6, 6, 6, 6, 6, 6, 6, 6, 6, 6, 6, 6, 6, 6, 6, 6, 6, 7, 7, 7, 7, 7, 7, 7, 7, 7, 7, 7, 7, 7, 7, 7, 7, 7, 7, 7, 7, 7, 7, 7, 7, 7, 7, 7, 7, 7, 7, 7, 7, 7, 7, 7, 7, 7, 7, 7, 7, 7, 7, 7, 7, 7, 7, 7, 7, 7, 7, 7, 7, 7, 7, 7, 7, 7, 7, 7, 7, 7, 7, 7, 7, 8, 8, 8, 8, 8, 8, 8, 8, 8, 8, 8, 8, 8, 8, 8, 8, 8, 8, 8, 8, 8, 8, 8, 8, 8, 8, 8, 8, 8, 8, 8, 8, 8, 8, 8, 8, 8, 8, 8, 8, 8, 8, 8, 8, 8, 8, 8, 8, 8, 8, 8, 8, 8, 8, 8, 8, 8, 8, 8, 8, 8, 8, 8, 8, 8, 8, 8, 8, 8, 8, 8, 8, 8, 8, 8, 8, 8, 8, 8, 8, 8, 8, 8, 8, 8, 8, 8, 8, 8, 8, 8, 8, 8, 8, 8, 8, 8, 8, 8, 8, 8, 8, 8, 8, 8, 8, 8, 8, 8, 8, 8, 8, 8, 8, 8, 8, 8, 8, 8, 8, 8, 8, 8, 8, 8, 8, 8, 8])) (j := 2) (b := (2 : UInt8)) (by decide) (by kernel_rfl)) (by kernel_rfl)) <|
    .a 3 1 <| .nil _ _) ?_
  refine aw_rt ?_
  exact en_ret [.int .i64 2] (by kernel_rfl)
theorem auy_4  :
    AC Tryz.prog 57 0 ([.int .u64 2]) [] (.int .i64 2) [] := by
  refine ac_in Tryz.func57 (fun w0 W pin => ?_)
  refine aw_p 3 (
    .a 1 1 <| .nil _ _) ?_
  refine aw_sq 6 7 ?_
  refine aw_fl 13 ?_
  refine aw_sk ?_
  refine then_normal ?_
  refine aw_p 15 (
    .a 1 1 <| .p (does_c (auy_3)) <| .a 1 1 <| .nil _ _) ?_
  refine aw_rt ?_
  exact en_ret [.int .i64 2] (by kernel_rfl)
theorem srt_2 (R1 R2 : List (Int × Int)) (zR1 : 1 ≤ R1.length ∧ R1.length ≤ 200) (zR2 : 1 ≤ R2.length ∧ R2.length ≤ 200) (o2 : Sp.pcmp (R2.getD 0 (0, 0)).1 (R2.getD 0 (0, 0)).2 (R1.getD 0 (0, 0)).1 (R1.getD 0 (0, 0)).2 = 1) :
    AC Tryz.prog 30 3 ([sV 0 2, .func (.func 31) #[] #[]]) [(0, ⟨[sV 1 R1.length, sV 2 R2.length], 39, true, 1⟩), (1, (pB R1)), (2, (pB R2))] (.tuple #[]) [(0, ⟨[sV 1 R1.length, sV 2 R2.length], 39, true, 1⟩), (1, (pB R1)), (2, (pB R2))] := by
  refine ac_in Tryz.func30 (fun w0 W pin => ?_)
  refine aw_p 3 (
    .a 3 3 <| .nil _ _) ?_
  refine aw_p1 (
    .a 4 3 <| .p (does_c (auy_4)) <| .a 1 3 <|
    .p (cS #[.tmp 7, .const (.int .i64 0), .tmp 8, .tmp 11, .tmp 12] #[24, 3, 3, 3, 69] [sV 0 2, .int .i64 0, .int .i64 2, .int .i64 2, .func (.func 31) #[] #[]] [0, 1, 2] [(0, ⟨[sV 1 R1.length, sV 2 R2.length], 39, true, 1⟩), (1, (pB R1)), (2, (pB R2))] (.tuple #[]) (pdq_2 R1 R2 zR1 zR2 o2) (.cons rS (.cons rF (.cons rF (.cons rF (.cons rF .nil))))) ⟨rfl, ⟨rfl, rfl, rfl, (.cons rS (.cons rS .nil))⟩, rfl, bP, rfl, bP, trivial⟩ rF) <| .nil _ _) ?_
  exact en_normal [] (by kernel_rfl)
theorem ins_3 (R1 R2 R3 : List (Int × Int)) (zR1 : 1 ≤ R1.length ∧ R1.length ≤ 200) (zR2 : 1 ≤ R2.length ∧ R2.length ≤ 200) (zR3 : 1 ≤ R3.length ∧ R3.length ≤ 200) (o2 : Sp.pcmp (R2.getD 0 (0, 0)).1 (R2.getD 0 (0, 0)).2 (R1.getD 0 (0, 0)).1 (R1.getD 0 (0, 0)).2 = 1) (o3 : Sp.pcmp (R3.getD 0 (0, 0)).1 (R3.getD 0 (0, 0)).2 (R2.getD 0 (0, 0)).1 (R2.getD 0 (0, 0)).2 = 1) :
    AC Tryz.prog 78 4 ([sV 0 3, .int .i64 0, .int .i64 3, .func (.func 31) #[] #[]]) [(0, ⟨[sV 1 R1.length, sV 2 R2.length, sV 3 R3.length], 39, true, 1⟩), (1, (pB R1)), (2, (pB R2)), (3, (pB R3))] (.tuple #[]) [(0, ⟨[sV 1 R1.length, sV 2 R2.length, sV 3 R3.length], 39, true, 1⟩), (1, (pB R1)), (2, (pB R2)), (3, (pB R3))] := by
  refine ac_in Tryz.func78 (fun w0 W pin => ?_)
  refine aw_p 3 (
    .a 3 4 <| .nil _ _) ?_
  refine aw_bl 0 7 ?_
  refine aw_lp 15 ?_
  refine al_round ?_
  refine aw_sq 30 31 ?_
  refine aw_p 61 (
    .a 3 4 <| .nil _ _) ?_
  refine aw_tr 122 ?_
  refine aw_sk ?_
  refine then_normal ?_
  refine aw_sq 62 63 ?_
  refine aw_bl 1 125 ?_
  refine aw_p 251 (
    .a 2 4 <| .nil _ _) ?_
  refine aw_bl 2 503 ?_
  refine aw_lp 1007 ?_
  refine al_round ?_
  refine aw_sq 2014 2015 ?_
  refine aw_d 4029 (
    .a 14 4 <|
    .p (does_callB (x := .tmp 22) (ars := #[.tmp 26, .tmp 31]) (ats := #[39, 39]) (g := 31) (vs := [sV 2 R2.length, sV 1 R1.length]) (m := 2) (r := 0) (firsts := #[]) (caps := #[]) (args0 := [sV 0 R2.length, sV 1 R1.length]) (pre0 := [(0, (pB R2)), (1, (pB R1))]) (post0 := [(0, (pB R2)), (1, (pB R1))]) (pre := [(2, (pB R2)), (1, (pB R1))]) (post := [(2, (pB R2)), (1, (pB R1))]) (v0 := .int .i64 1) (v := .int .i64 1) [2, 1] (by kernel_rfl) (by kernel_rfl) (by kernel_rfl) (by kernel_rfl) (nrm1_ok R1 R2 zR1.1 zR2.1 zR1.2 zR2.2 o2) (.cons rS (.cons rS .nil)) ⟨rfl, bP, rfl, bP, trivial⟩ (by kernel_rfl) (by kernel_rfl) (by kernel_rfl) ⟨rfl, bP, rfl, bP, trivial⟩ rF) <|
    .a 2 4 <| .nil _ _) ?_
  refine aw_fl 8059 ?_
  refine aw_ex 2 ?_
  refine then_exit ?_
  refine then_exit ?_
  refine block_exit ?_
  refine block_normal ?_
  refine then_normal ?_
  refine aw_p1 (
    .a 3 4 <| .nil _ _) ?_
  refine then_normal ?_
  refine al_round ?_
  refine aw_sq 30 31 ?_
  refine aw_p 61 (
    .a 3 4 <| .nil _ _) ?_
  refine aw_tr 122 ?_
  refine aw_sk ?_
  refine then_normal ?_
  refine aw_sq 62 63 ?_
  refine aw_bl 1 125 ?_
  refine aw_p 251 (
    .a 2 4 <| .nil _ _) ?_
  refine aw_bl 2 503 ?_
  refine aw_lp 1007 ?_
  refine al_round ?_
  refine aw_sq 2014 2015 ?_
  refine aw_d 4029 (
    .a 14 4 <|
    .p (does_callB (x := .tmp 22) (ars := #[.tmp 26, .tmp 31]) (ats := #[39, 39]) (g := 31) (vs := [sV 3 R3.length, sV 2 R2.length]) (m := 2) (r := 0) (firsts := #[]) (caps := #[]) (args0 := [sV 0 R3.length, sV 1 R2.length]) (pre0 := [(0, (pB R3)), (1, (pB R2))]) (post0 := [(0, (pB R3)), (1, (pB R2))]) (pre := [(3, (pB R3)), (2, (pB R2))]) (post := [(3, (pB R3)), (2, (pB R2))]) (v0 := .int .i64 1) (v := .int .i64 1) [3, 2] (by kernel_rfl) (by kernel_rfl) (by kernel_rfl) (by kernel_rfl) (nrm1_ok R2 R3 zR2.1 zR3.1 zR2.2 zR3.2 o3) (.cons rS (.cons rS .nil)) ⟨rfl, bP, rfl, bP, trivial⟩ (by kernel_rfl) (by kernel_rfl) (by kernel_rfl) ⟨rfl, bP, rfl, bP, trivial⟩ rF) <|
    .a 2 4 <| .nil _ _) ?_
  refine aw_fl 8059 ?_
  refine aw_ex 2 ?_
  refine then_exit ?_
  refine then_exit ?_
  refine block_exit ?_
  refine block_normal ?_
  refine then_normal ?_
  refine aw_p1 (
    .a 3 4 <| .nil _ _) ?_
  refine then_normal ?_
  refine al_round ?_
  refine aw_sq 30 31 ?_
  refine aw_p 61 (
    .a 3 4 <| .nil _ _) ?_
  refine aw_fl 123 ?_
  refine aw_ex 0 ?_
  refine then_exit ?_
  refine then_exit ?_
  refine block_exit ?_
  exact en_normal [] (by kernel_rfl)
theorem pdq_3 (R1 R2 R3 : List (Int × Int)) (zR1 : 1 ≤ R1.length ∧ R1.length ≤ 200) (zR2 : 1 ≤ R2.length ∧ R2.length ≤ 200) (zR3 : 1 ≤ R3.length ∧ R3.length ≤ 200) (o2 : Sp.pcmp (R2.getD 0 (0, 0)).1 (R2.getD 0 (0, 0)).2 (R1.getD 0 (0, 0)).1 (R1.getD 0 (0, 0)).2 = 1) (o3 : Sp.pcmp (R3.getD 0 (0, 0)).1 (R3.getD 0 (0, 0)).2 (R2.getD 0 (0, 0)).1 (R2.getD 0 (0, 0)).2 = 1) :
    AC Tryz.prog 56 4 ([sV 0 3, .int .i64 0, .int .i64 3, .int .i64 2, .func (.func 31) #[] #[]]) [(0, ⟨[sV 1 R1.length, sV 2 R2.length, sV 3 R3.length], 39, true, 1⟩), (1, (pB R1)), (2, (pB R2)), (3, (pB R3))] (.tuple #[]) [(0, ⟨[sV 1 R1.length, sV 2 R2.length, sV 3 R3.length], 39, true, 1⟩), (1, (pB R1)), (2, (pB R2)), (3, (pB R3))] := by
  refine ac_in Tryz.func56 (fun w0 W pin => ?_)
  refine aw_p 3 (
    .a 1 4 <| .nil _ _) ?_
  refine aw_p 7 (
    .a 1 4 <| .nil _ _) ?_
  refine aw_bl 0 15 ?_
  refine aw_lp 31 ?_
  refine al_round ?_
  refine aw_bl 1 63 ?_
  refine aw_p 127 (
    .a 4 4 <| .nil _ _) ?_
  refine aw_sq 254 255 ?_
  refine aw_p 509 (
    .a 2 4 <| .nil _ _) ?_
  refine aw_tr 1018 ?_
  refine aw_p 2037 (
    .a 4 4 <|
    .p (cS #[.tmp 26, .tmp 27, .tmp 28, .tmp 29] #[24, 3, 3, 69] [sV 0 3, .int .i64 0, .int .i64 3, .func (.func 31) #[] #[]] [0, 1, 2, 3] [(0, ⟨[sV 1 R1.length, sV 2 R2.length, sV 3 R3.length], 39, true, 1⟩), (1, (pB R1)), (2, (pB R2)), (3, (pB R3))] (.tuple #[]) (ins_3 R1 R2 R3 zR1 zR2 zR3 o2 o3) (.cons rS (.cons rF (.cons rF (.cons rF .nil)))) ⟨rfl, ⟨rfl, rfl, rfl, (.cons rS (.cons rS (.cons rS .nil)))⟩, rfl, bP, rfl, bP, rfl, bP, trivial⟩ rF) <| .nil _ _) ?_
  refine aw_rt ?_
  refine then_ret ?_
  refine block_ret ?_
  refine then_ret ?_
  refine block_ret ?_
  exact en_ret [] (by kernel_rfl)
theorem auy_5  :
    AC Tryz.prog 87 0 ([.int .u64 3]) [] (.int .i64 2) [] := by
  refine ac_in Tryz.func87 (fun w0 W pin => ?_)
  refine aw_p 3 (
    .a 1 1 <| .nil _ _) ?_
  refine aw_sq 6 7 ?_
  refine aw_p 13 (
    .a 2 1 <| .nil _ _) ?_
  refine aw_fl 27 ?_
  refine aw_sk ?_
  refine then_normal ?_
  refine aw_sq 14 15 ?_
  refine aw_p 29 (
    .a 2 1 <| .nil _ _) ?_
  refine aw_fl 59 ?_
  refine aw_sk ?_
  refine then_normal ?_
  refine aw_sq 30 31 ?_
  refine aw_p 61 (
    .a 2 1 <| .nil _ _) ?_
  refine aw_fl 123 ?_
  refine aw_sk ?_
  refine then_normal ?_
  refine aw_p 63 (
    .a 3 1 <|
    .p (does_val (v' := .int .u8 2) (does_ixs (s := (ByteArray.mk #[0, 1, 2, 2, 3, 3, 3, 3, 4, 4, 4, 4, 4, 4, 4, 4, 5, 5, 5, 5, 5, 5, 5, 5, 5, 5, 5, 5, 5, 5, 5, 5, 6, 6, 6, 6, 6, 6, 6, 6, 6, 6, 6, 6, 6, 6, 6, 6, 6, 6, 6, 6, 6, 6, 6, 6, 6, 6, 6, 6, 6, 6, 6, 6, 7, 7, 7, 7, 7, 7, 7, 7, 7, 7, 7, 7, 7, 7, 7, 7, 7, 7, 7, 7, 7, 7, 7, 7, 7, 7, 7, 7, 7, 7, 7, 7, 7, 7, 7, 7, 7, 7, 7, 7, 7, 7, 7, 7, 7, 7, 7, 7, 7, 7, 7, 7, 7, 7, 7, 7, 7, 7, 7, 7, 7, 7, 7, 7, 8, 8, 8, 8, 8, 8, 8, 8, 8, 8, 8, 8, 8, 8, 8, 8, 8, 8, 8, 8, 8, 8, 8, 8, 8, 8, 8, 8, 8, 8, 8, 8, 8, 8, 8, 8, 8, 8, 8, 8, 8, 8, 8, 8, 8, 8, 8, 8, 8, 8, 8, 8, 8, 8, 8, 8, 8, 8, 8, 8, 8, 8, 8, 8, 8, 8, 8, 8, 8, 8, 8, 8, 8, 8, 8, 8, 8, 8, 8, 8, 8, 8, 8, 8, 8, 8, 8, 8, 8, 8, 8, 8, 8, 8, 8, 8, 8, 8, 8, 8, 8, 8, 8, 8, 8, 8, 8, 8, 8, 8, 8, 8, 8, 8, 8, 8, 8, 8, 8, 8, 8, 8, 8, 8, 8, 8, 8, 8])) (j := 3) (b := (2 : UInt8)) (by decide) (by kernel_rfl)) (by kernel_rfl)) <|
    .a 3 1 <| .nil _ _) ?_
  refine aw_rt ?_
  exact en_ret [.int .i64 2] (by kernel_rfl)
theorem auy_6  :
    AC Tryz.prog 57 0 ([.int .u64 3]) [] (.int .i64 2) [] := by
  refine ac_in Tryz.func57 (fun w0 W pin => ?_)
  refine aw_p 3 (
    .a 1 1 <| .nil _ _) ?_
  refine aw_sq 6 7 ?_
  refine aw_fl 13 ?_
  refine aw_sk ?_
  refine then_normal ?_
  refine aw_p 15 (
    .a 1 1 <| .p (does_c (auy_5)) <| .a 1 1 <| .nil _ _) ?_
  refine aw_rt ?_
  exact en_ret [.int .i64 2] (by kernel_rfl)
theorem srt_3 (R1 R2 R3 : List (Int × Int)) (zR1 : 1 ≤ R1.length ∧ R1.length ≤ 200) (zR2 : 1 ≤ R2.length ∧ R2.length ≤ 200) (zR3 : 1 ≤ R3.length ∧ R3.length ≤ 200) (o2 : Sp.pcmp (R2.getD 0 (0, 0)).1 (R2.getD 0 (0, 0)).2 (R1.getD 0 (0, 0)).1 (R1.getD 0 (0, 0)).2 = 1) (o3 : Sp.pcmp (R3.getD 0 (0, 0)).1 (R3.getD 0 (0, 0)).2 (R2.getD 0 (0, 0)).1 (R2.getD 0 (0, 0)).2 = 1) :
    AC Tryz.prog 30 4 ([sV 0 3, .func (.func 31) #[] #[]]) [(0, ⟨[sV 1 R1.length, sV 2 R2.length, sV 3 R3.length], 39, true, 1⟩), (1, (pB R1)), (2, (pB R2)), (3, (pB R3))] (.tuple #[]) [(0, ⟨[sV 1 R1.length, sV 2 R2.length, sV 3 R3.length], 39, true, 1⟩), (1, (pB R1)), (2, (pB R2)), (3, (pB R3))] := by
  refine ac_in Tryz.func30 (fun w0 W pin => ?_)
  refine aw_p 3 (
    .a 3 4 <| .nil _ _) ?_
  refine aw_p1 (
    .a 4 4 <| .p (does_c (auy_6)) <| .a 1 4 <|
    .p (cS #[.tmp 7, .const (.int .i64 0), .tmp 8, .tmp 11, .tmp 12] #[24, 3, 3, 3, 69] [sV 0 3, .int .i64 0, .int .i64 3, .int .i64 2, .func (.func 31) #[] #[]] [0, 1, 2, 3] [(0, ⟨[sV 1 R1.length, sV 2 R2.length, sV 3 R3.length], 39, true, 1⟩), (1, (pB R1)), (2, (pB R2)), (3, (pB R3))] (.tuple #[]) (pdq_3 R1 R2 R3 zR1 zR2 zR3 o2 o3) (.cons rS (.cons rF (.cons rF (.cons rF (.cons rF .nil))))) ⟨rfl, ⟨rfl, rfl, rfl, (.cons rS (.cons rS (.cons rS .nil)))⟩, rfl, bP, rfl, bP, rfl, bP, trivial⟩ rF) <| .nil _ _) ?_
  exact en_normal [] (by kernel_rfl)
end Go.Proofs.YtndkhgfecnbmnaaGreat.Am

namespace Go.Proofs.YtndkhgfecnbmnaaGreat.Am
open Go Go.Proofs
set_option maxRecDepth 100000
set_option maxHeartbeats 4000000
set_option linter.unusedVariables false
set_option linter.unusedSimpArgs false
theorem anorm_n1 (x1 y1 r1 : Int) (s1 : 1 ≤ r1) (u1 : r1 ≤ 20) (v1 : -40 ≤ x1 - r1 ∧ x1 + r1 ≤ 40) (w1 : -40 ≤ y1 - r1 ∧ y1 + r1 ≤ 40) (c1 : Sp.chkF (Sp.sqr x1 y1 r1) = 0)  :
    AC Tryz.prog 7 2 ([sV 0 1]) [(0, ⟨[sV 1 4], 39, true, 1⟩), (1, (pB (Sp.sqr x1 y1 r1)))] (sV 2 1) [(0, ⟨[sV 1 4], 39, true, 1⟩), (1, (pB (Sp.sqr x1 y1 r1))), (2, ⟨[sV 3 4], 39, true, 1⟩), (3, (pB (Sp.sqr x1 y1 r1)))] := by
  refine ac_in Tryz.func7 (fun w0 W pin => ?_)
  refine aw_p 3 (
    .a 1 2 <| .nil _ _) ?_
  refine aw_p 7 (
    .a 1 2 <| .nil _ _) ?_
  refine aw_sq 14 15 ?_
  refine aw_p 29 (
    .a 1 2 <|
    .p (cF #[.tmp 7] #[25] [sV 0 1] 1 [0, 1, 2] [(0, ⟨[sV 1 4], 39, true, 1⟩), (1, (pB (Sp.sqr x1 y1 r1)))] [(0, ⟨[sV 1 4], 39, true, 1⟩), (1, (pB (Sp.sqr x1 y1 r1))), (2, ⟨[.int .i64 0], 3, true, 1⟩)] (sV 2 1) (adepth_n1 (Sp.sqr x1 y1 r1) ⟨by simp [Sp.sqr, Sp.hol], by simp [Sp.sqr, Sp.hol]⟩ (Sp.few_sqr (m := 1000) (by omega) (by omega) (by omega)).1 c1) (.cons rS .nil) ⟨rfl, ⟨rfl, rfl, rfl, (.cons rS .nil)⟩, rfl, bP, trivial⟩ ⟨rfl, ⟨rfl, rfl, rfl, (.cons rS .nil)⟩, rfl, bP, rfl, ⟨rfl, rfl, rfl, (.flats (by kernel_rfl))⟩, trivial⟩ rS) <|
    .a 2 3 <| .nil _ _) ?_
  refine aw_bl 0 59 ?_
  refine aw_lp 119 ?_
  refine al_round ?_
  refine aw_p 239 (
    .a 1 3 <| .nil _ _) ?_
  refine aw_sq 478 479 ?_
  refine aw_tr 956 ?_
  refine aw_sk ?_
  refine then_normal ?_
  refine aw_sq 958 959 ?_
  refine aw_bl 1 1917 ?_
  refine aw_p 3835 (
    .a 5 3 <| .nil _ _) ?_
  refine aw_p 7671 (
    .a 4 3 <|
    .p (cF #[.tmp 18] #[39] [sV 1 4] 1 [1, 3] [(1, (pB (Sp.sqr x1 y1 r1)))] [(1, (pB (Sp.sqr x1 y1 r1))), (3, (pB (Sp.sqr x1 y1 r1)))] (sV 3 4) (norm_n (Sp.sqr x1 y1 r1) (Sp.sqr x1 y1 r1) 0 4 (by simp [Sp.sqr, Sp.hol]) (by decide) (by decide) (by decide) (Sp.chk_diff c1).2 (Sp.sq_least s1).1 (Sp.sq_norm s1 u1 v1 w1).1) (.cons rS .nil) ⟨rfl, bP, trivial⟩ ⟨rfl, bP, rfl, bP, trivial⟩ rS) <|
    .a 1 4 <| .nil _ _) ?_
  refine aw_sq 15342 15343 ?_
  refine aw_p 30685 (
    .a 3 4 <| .nil _ _) ?_
  refine aw_fl 61371 ?_
  refine aw_sk ?_
  refine then_normal ?_
  refine aw_p1 (
    .a 3 4 <| .p (does_ap 5) <| .a 1 6 <| .nil _ _) ?_
  refine block_normal ?_
  refine then_normal ?_
  refine aw_p1 (
    .a 2 6 <| .nil _ _) ?_
  refine then_normal ?_
  refine al_round ?_
  refine aw_p 239 (
    .a 1 6 <| .nil _ _) ?_
  refine aw_sq 478 479 ?_
  refine aw_fl 957 ?_
  refine aw_ex 0 ?_
  refine then_exit ?_
  refine then_exit ?_
  refine block_exit ?_
  refine then_normal ?_
  refine aw_p 31 (
    .a 1 6 <|
    .p (cS #[.tmp 31, .func 31] #[25, 69] [sV 5 1, .func (.func 31) #[] #[]] [5, 3] [(5, ⟨[sV 3 4], 39, true, 1⟩), (3, (pB (Sp.sqr x1 y1 r1)))] (.tuple #[]) (srt_1 (Sp.sqr x1 y1 r1) ⟨by simp [Sp.sqr, Sp.hol], by simp [Sp.sqr, Sp.hol]⟩) (.cons rS (.cons rF .nil)) ⟨rfl, ⟨rfl, rfl, rfl, (.cons rS .nil)⟩, rfl, bP, trivial⟩ rF) <| .nil _ _) ?_
  refine aw_p 63 (
    .a 2 6 <| .nil _ _) ?_
  refine aw_r [(2, 5)] [(2, sV 5 1)] [(0, ⟨[sV 1 4], 39, true, 1⟩), (1, (pB (Sp.sqr x1 y1 r1))), (5, ⟨[sV 3 4], 39, true, 1⟩), (3, (pB (Sp.sqr x1 y1 r1)))] [(2, sV 2 1)] [(0, ⟨[sV 1 4], 39, true, 1⟩), (1, (pB (Sp.sqr x1 y1 r1))), (2, ⟨[sV 3 4], 39, true, 1⟩), (3, (pB (Sp.sqr x1 y1 r1)))] ?_ ⟨rfl, (rK rfl), trivial⟩ ⟨rfl, ⟨rfl, rfl, rfl, (.cons (rK rfl) .nil)⟩, rfl, ⟨rfl, rfl, rfl, (.flats (flats_pair _))⟩, rfl, ⟨rfl, rfl, rfl, (.cons (rK rfl) .nil)⟩, rfl, ⟨rfl, rfl, rfl, (.flats (flats_pair _))⟩, trivial⟩
  refine aw_rt ?_
  exact en_ret [sV 2 1] (by kernel_rfl)
end Go.Proofs.YtndkhgfecnbmnaaGreat.Am

namespace Go.Proofs.YtndkhgfecnbmnaaGreat.Am
open Go Go.Proofs
set_option maxRecDepth 100000
set_option maxHeartbeats 4000000
set_option linter.unusedVariables false
set_option linter.unusedSimpArgs false
theorem anorm_n2 (x1 y1 r1 x2 y2 r2 : Int) (s1 : 1 ≤ r1) (u1 : r1 ≤ 20) (v1 : -40 ≤ x1 - r1 ∧ x1 + r1 ≤ 40) (w1 : -40 ≤ y1 - r1 ∧ y1 + r1 ≤ 40) (s2 : 1 ≤ r2) (u2 : r2 ≤ 20) (v2 : -40 ≤ x2 - r2 ∧ x2 + r2 ≤ 40) (w2 : -40 ≤ y2 - r2 ∧ y2 + r2 ≤ 40) (c1 : Sp.chkF (Sp.sqr x1 y1 r1) = 0) (c2 : Sp.chkF (Sp.hol x2 y2 r2) = 0) (F21 : Sp.Fit (Sp.hol x2 y2 r2) (Sp.sqr x1 y1 r1) 1 (-1)) (o2 : Sp.pcmp ((Sp.hol x2 y2 r2).getD 0 (0, 0)).1 ((Sp.hol x2 y2 r2).getD 0 (0, 0)).2 ((Sp.sqr x1 y1 r1).getD 0 (0, 0)).1 ((Sp.sqr x1 y1 r1).getD 0 (0, 0)).2 = 1) :
    AC Tryz.prog 7 3 ([sV 0 2]) [(0, ⟨[sV 1 4, sV 2 4], 39, true, 1⟩), (1, (pB (Sp.sqr x1 y1 r1))), (2, (pB (Sp.hol x2 y2 r2)))] (sV 3 2) [(0, ⟨[sV 1 4, sV 2 4], 39, true, 1⟩), (1, (pB (Sp.sqr x1 y1 r1))), (2, (pB (Sp.hol x2 y2 r2))), (3, ⟨[sV 4 4, sV 5 4], 39, true, 1⟩), (4, (pB (Sp.sqr x1 y1 r1))), (5, (pB (Sp.hol x2 y2 r2)))] := by
  refine ac_in Tryz.func7 (fun w0 W pin => ?_)
  refine aw_p 3 (
    .a 1 3 <| .nil _ _) ?_
  refine aw_p 7 (
    .a 1 3 <| .nil _ _) ?_
  refine aw_sq 14 15 ?_
  refine aw_p 29 (
    .a 1 3 <|
    .p (cF #[.tmp 7] #[25] [sV 0 2] 1 [0, 1, 2, 3] [(0, ⟨[sV 1 4, sV 2 4], 39, true, 1⟩), (1, (pB (Sp.sqr x1 y1 r1))), (2, (pB (Sp.hol x2 y2 r2)))] [(0, ⟨[sV 1 4, sV 2 4], 39, true, 1⟩), (1, (pB (Sp.sqr x1 y1 r1))), (2, (pB (Sp.hol x2 y2 r2))), (3, ⟨[.int .i64 0, .int .i64 1], 3, true, 1⟩)] (sV 3 2) (adepth_n2 (Sp.sqr x1 y1 r1) (Sp.hol x2 y2 r2) ⟨by simp [Sp.sqr, Sp.hol], by simp [Sp.sqr, Sp.hol]⟩ (Sp.few_sqr (m := 1000) (by omega) (by omega) (by omega)).1 ⟨by simp [Sp.sqr, Sp.hol], by simp [Sp.sqr, Sp.hol]⟩ (Sp.few_sqr (m := 1000) (by omega) (by omega) (by omega)).2 c1 c2 F21) (.cons rS .nil) ⟨rfl, ⟨rfl, rfl, rfl, (.cons rS (.cons rS .nil))⟩, rfl, bP, rfl, bP, trivial⟩ ⟨rfl, ⟨rfl, rfl, rfl, (.cons rS (.cons rS .nil))⟩, rfl, bP, rfl, bP, rfl, ⟨rfl, rfl, rfl, (.flats (by kernel_rfl))⟩, trivial⟩ rS) <|
    .a 2 4 <| .nil _ _) ?_
  refine aw_bl 0 59 ?_
  refine aw_lp 119 ?_
  refine al_round ?_
  refine aw_p 239 (
    .a 1 4 <| .nil _ _) ?_
  refine aw_sq 478 479 ?_
  refine aw_tr 956 ?_
  refine aw_sk ?_
  refine then_normal ?_
  refine aw_sq 958 959 ?_
  refine aw_bl 1 1917 ?_
  refine aw_p 3835 (
    .a 5 4 <| .nil _ _) ?_
  refine aw_p 7671 (
    .a 4 4 <|
    .p (cF #[.tmp 18] #[39] [sV 1 4] 1 [1, 4] [(1, (pB (Sp.sqr x1 y1 r1)))] [(1, (pB (Sp.sqr x1 y1 r1))), (4, (pB (Sp.sqr x1 y1 r1)))] (sV 4 4) (norm_n (Sp.sqr x1 y1 r1) (Sp.sqr x1 y1 r1) 0 4 (by simp [Sp.sqr, Sp.hol]) (by decide) (by decide) (by decide) (Sp.chk_diff c1).2 (Sp.sq_least s1).1 (Sp.sq_norm s1 u1 v1 w1).1) (.cons rS .nil) ⟨rfl, bP, trivial⟩ ⟨rfl, bP, rfl, bP, trivial⟩ rS) <|
    .a 1 5 <| .nil _ _) ?_
  refine aw_sq 15342 15343 ?_
  refine aw_p 30685 (
    .a 3 5 <| .nil _ _) ?_
  refine aw_fl 61371 ?_
  refine aw_sk ?_
  refine then_normal ?_
  refine aw_p1 (
    .a 3 5 <| .p (does_ap 6) <| .a 1 7 <| .nil _ _) ?_
  refine block_normal ?_
  refine then_normal ?_
  refine aw_p1 (
    .a 2 7 <| .nil _ _) ?_
  refine then_normal ?_
  refine al_round ?_
  refine aw_p 239 (
    .a 1 7 <| .nil _ _) ?_
  refine aw_sq 478 479 ?_
  refine aw_tr 956 ?_
  refine aw_sk ?_
  refine then_normal ?_
  refine aw_sq 958 959 ?_
  refine aw_bl 1 1917 ?_
  refine aw_p 3835 (
    .a 5 7 <| .nil _ _) ?_
  refine aw_p 7671 (
    .a 4 7 <|
    .p (cF #[.tmp 18] #[39] [sV 2 4] 1 [2, 7] [(2, (pB (Sp.hol x2 y2 r2)))] [(2, (pB (Sp.hol x2 y2 r2))), (7, (pB (Sp.sqr x2 y2 r2)))] (sV 7 4) (norm_n (Sp.hol x2 y2 r2) (Sp.sqr x2 y2 r2) 0 4 (by simp [Sp.sqr, Sp.hol]) (by decide) (by decide) (by decide) (Sp.chk_diff c2).2 (Sp.sq_least s2).2 (Sp.sq_norm s2 u2 v2 w2).2) (.cons rS .nil) ⟨rfl, bP, trivial⟩ ⟨rfl, bP, rfl, bP, trivial⟩ rS) <|
    .a 1 8 <| .nil _ _) ?_
  refine aw_sq 15342 15343 ?_
  refine aw_p 30685 (
    .a 3 8 <| .nil _ _) ?_
  refine aw_tr 61370 ?_
  refine aw_p1 (
    .a 1 8 <|
    .p (does_val (v' := .slice (some ⟨7, 2, none⟩) 3 0) (does_slice (t := 39) (x := .tmp 23) (lo := some (.const (.int .i64 1))) (hi := none) (k := 7) (off := 0) (n := 4) (c := 0) (z := 2) (l := 1) (h := ((4 : Nat) : Int)) (m := 3) (b := (pB (Sp.sqr x2 y2 r2))) (by kernel_rfl) (by kernel_rfl) (by kernel_rfl) (by kernel_rfl) (by kernel_rfl) (by kernel_rfl) (by kernel_rfl) (by kernel_rfl) (by decide) (by decide) (by decide) (by decide)) (by kernel_rfl)) <|
    .p (cF (m := 1) (args0 := [.slice (some ⟨0, 2, none⟩) 3 0]) (pre0 := [(0, (pB (Sp.sqr x2 y2 r2)))]) (post0 := [(0, (pB (Sp.hol x2 y2 r2)))]) (v0 := .tuple #[]) #[.tmp 24] #[39] [.slice (some ⟨7, 2, none⟩) 3 0] 0 [7] [(7, (pB (Sp.sqr x2 y2 r2)))] [(7, (pB (Sp.hol x2 y2 r2)))] (.tuple #[]) (revtail_ok x2 y2 r2) (.cons rS .nil) ⟨rfl, bP, trivial⟩ ⟨rfl, bP, trivial⟩ rF) <| .nil _ _) ?_
  refine then_normal ?_
  refine aw_p1 (
    .a 3 8 <| .p (does_ap 9) <| .a 1 10 <| .nil _ _) ?_
  refine block_normal ?_
  refine then_normal ?_
  refine aw_p1 (
    .a 2 10 <| .nil _ _) ?_
  refine then_normal ?_
  refine al_round ?_
  refine aw_p 239 (
    .a 1 10 <| .nil _ _) ?_
  refine aw_sq 478 479 ?_
  refine aw_fl 957 ?_
  refine aw_ex 0 ?_
  refine then_exit ?_
  refine then_exit ?_
  refine block_exit ?_
  refine then_normal ?_
  refine aw_p 31 (
    .a 1 10 <|
    .p (cS #[.tmp 31, .func 31] #[25, 69] [sV 9 2, .func (.func 31) #[] #[]] [9, 4, 7] [(9, ⟨[sV 4 4, sV 7 4], 39, true, 1⟩), (4, (pB (Sp.sqr x1 y1 r1))), (7, (pB (Sp.hol x2 y2 r2)))] (.tuple #[]) (srt_2 (Sp.sqr x1 y1 r1) (Sp.hol x2 y2 r2) ⟨by simp [Sp.sqr, Sp.hol], by simp [Sp.sqr, Sp.hol]⟩ ⟨by simp [Sp.sqr, Sp.hol], by simp [Sp.sqr, Sp.hol]⟩ o2) (.cons rS (.cons rF .nil)) ⟨rfl, ⟨rfl, rfl, rfl, (.cons rS (.cons rS .nil))⟩, rfl, bP, rfl, bP, trivial⟩ rF) <| .nil _ _) ?_
  refine aw_p 63 (
    .a 2 10 <| .nil _ _) ?_
  refine aw_r [(3, 9), (5, 7)] [(2, sV 9 2)] [(0, ⟨[sV 1 4, sV 2 4], 39, true, 1⟩), (1, (pB (Sp.sqr x1 y1 r1))), (2, (pB (Sp.hol x2 y2 r2))), (9, ⟨[sV 4 4, sV 7 4], 39, true, 1⟩), (4, (pB (Sp.sqr x1 y1 r1))), (7, (pB (Sp.hol x2 y2 r2)))] [(2, sV 3 2)] [(0, ⟨[sV 1 4, sV 2 4], 39, true, 1⟩), (1, (pB (Sp.sqr x1 y1 r1))), (2, (pB (Sp.hol x2 y2 r2))), (3, ⟨[sV 4 4, sV 5 4], 39, true, 1⟩), (4, (pB (Sp.sqr x1 y1 r1))), (5, (pB (Sp.hol x2 y2 r2)))] ?_ ⟨rfl, (rK rfl), trivial⟩ ⟨rfl, ⟨rfl, rfl, rfl, (.cons (rK rfl) (.cons (rK rfl) .nil))⟩, rfl, ⟨rfl, rfl, rfl, (.flats (flats_pair _))⟩, rfl, ⟨rfl, rfl, rfl, (.flats (flats_pair _))⟩, rfl, ⟨rfl, rfl, rfl, (.cons (rK rfl) (.cons (rK rfl) .nil))⟩, rfl, ⟨rfl, rfl, rfl, (.flats (flats_pair _))⟩, rfl, ⟨rfl, rfl, rfl, (.flats (flats_pair _))⟩, trivial⟩
  refine aw_rt ?_
  exact en_ret [sV 3 2] (by kernel_rfl)
end Go.Proofs.YtndkhgfecnbmnaaGreat.Am
