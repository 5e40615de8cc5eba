import Derived.Test.YtndkhgfecnbmnaaProg
import Derived.Test.YtndkhgfecnbmnaaM2
import Derived.Test.YtndkhgfecnbmnaaM7
import Derived.Test.YtndkhgfecnbmnaaM8
import Derived.Test.YtndkhgfecnbmnaaM5
import Derived.Test.YtndkhgfecnbmnaaM3
import Derived.Test.YtndkhgfecnbmnaaM6
import Derived.Test.YtndkhgfecnbmnaaM9
import Derived.Test.YtndkhgfecnbmnaaM4
namespace Go.Proofs.Ytndkhgfecnbmnaa.Am
open Go Go.Proofs
set_option maxRecDepth 100000
set_option maxHeartbeats 4000000
set_option linter.unusedVariables false
set_option linter.unusedSimpArgs false
theorem acheck_n3 (R1 R2 R3 : List (Int × Int)) (zR1 : 1 ≤ R1.length ∧ R1.length ≤ 200) (fR1 : Sp.Few 1000 R1) (zR2 : 1 ≤ R2.length ∧ R2.length ≤ 200) (fR2 : Sp.Few 1000 R2) (zR3 : 1 ≤ R3.length ∧ R3.length ≤ 200) (fR3 : Sp.Few 1000 R3) (cR1 : Sp.chkF R1 = 0) (cR2 : Sp.chkF R2 = 0) (cR3 : Sp.chkF R3 = 0) (F21 : Sp.Fit R2 R1 1 (-1)) (F31 : Sp.Fit R3 R1 1 (-1)) (F32 : Sp.Fit R3 R2 1 (-1)) :
    AC Try.prog 18 4 ([sV 0 3]) [(0, ⟨[sV 1 R1.length, sV 2 R2.length, sV 3 R3.length], 30, true, 1⟩), (1, (pB R1)), (2, (pB R2)), (3, (pB R3))] (.int .i64 0) [(0, ⟨[sV 1 R1.length, sV 2 R2.length, sV 3 R3.length], 30, true, 1⟩), (1, (pB R1)), (2, (pB R2)), (3, (pB R3))] := by
  refine ac_in Try.func18 (fun w0 W pin => ?_)
  refine aw_p 3 (
    .a 1 4 <| .nil _ _) ?_
  refine aw_sq 6 7 ?_
  refine aw_p 13 (
    .a 3 4 <| .nil _ _) ?_
  refine aw_fl 27 ?_
  refine aw_sk ?_
  refine then_normal ?_
  refine aw_sq 14 15 ?_
  refine aw_p 29 (
    .a 3 4 <| .nil _ _) ?_
  refine aw_bl 0 59 ?_
  refine aw_lp 119 ?_
  refine al_round ?_
  refine aw_p 239 (
    .a 1 4 <| .nil _ _) ?_
  refine aw_sq 478 479 ?_
  refine aw_tr 956 ?_
  refine aw_sk ?_
  refine then_normal ?_
  refine aw_sq 958 959 ?_
  refine aw_bl 1 1917 ?_
  refine aw_p 3835 (
    .a 3 4 <| .nil _ _) ?_
  refine aw_p 7671 (
    .a 1 4 <| .p (cS (m := 1) (args0 := [sV 0 R1.length]) (pre0 := [(0, (pB R1))]) (v0 := .int .i64 0) #[.tmp 19] #[30] [sV 1 R1.length] [1] [(1, (pB R1))] (.int .i64 0) ((by have h := chkn_own R1 R1.length rfl (by omega); rw [cR1] at h; exact h)) (.cons rS .nil) ⟨rfl, bP, trivial⟩ rF) <| .a 1 4 <| .nil _ _) ?_
  refine aw_p 15343 (
    .a 2 4 <| .nil _ _) ?_
  refine aw_fl 30687 ?_
  refine aw_sk ?_
  refine block_normal ?_
  refine then_normal ?_
  refine aw_p1 (
    .a 2 4 <| .nil _ _) ?_
  refine then_normal ?_
  refine al_round ?_
  refine aw_p 239 (
    .a 1 4 <| .nil _ _) ?_
  refine aw_sq 478 479 ?_
  refine aw_tr 956 ?_
  refine aw_sk ?_
  refine then_normal ?_
  refine aw_sq 958 959 ?_
  refine aw_bl 1 1917 ?_
  refine aw_p 3835 (
    .a 3 4 <| .nil _ _) ?_
  refine aw_p 7671 (
    .a 1 4 <| .p (cS (m := 1) (args0 := [sV 0 R2.length]) (pre0 := [(0, (pB R2))]) (v0 := .int .i64 0) #[.tmp 19] #[30] [sV 2 R2.length] [2] [(2, (pB R2))] (.int .i64 0) ((by have h := chkn_own R2 R2.length rfl (by omega); rw [cR2] at h; exact h)) (.cons rS .nil) ⟨rfl, bP, trivial⟩ rF) <| .a 1 4 <| .nil _ _) ?_
  refine aw_p 15343 (
    .a 2 4 <| .nil _ _) ?_
  refine aw_fl 30687 ?_
  refine aw_sk ?_
  refine block_normal ?_
  refine then_normal ?_
  refine aw_p1 (
    .a 2 4 <| .nil _ _) ?_
  refine then_normal ?_
  refine al_round ?_
  refine aw_p 239 (
    .a 1 4 <| .nil _ _) ?_
  refine aw_sq 478 479 ?_
  refine aw_tr 956 ?_
  refine aw_sk ?_
  refine then_normal ?_
  refine aw_sq 958 959 ?_
  refine aw_bl 1 1917 ?_
  refine aw_p 3835 (
    .a 3 4 <| .nil _ _) ?_
  refine aw_p 7671 (
    .a 1 4 <| .p (cS (m := 1) (args0 := [sV 0 R3.length]) (pre0 := [(0, (pB R3))]) (v0 := .int .i64 0) #[.tmp 19] #[30] [sV 3 R3.length] [3] [(3, (pB R3))] (.int .i64 0) ((by have h := chkn_own R3 R3.length rfl (by omega); rw [cR3] at h; exact h)) (.cons rS .nil) ⟨rfl, bP, trivial⟩ rF) <| .a 1 4 <| .nil _ _) ?_
  refine aw_p 15343 (
    .a 2 4 <| .nil _ _) ?_
  refine aw_fl 30687 ?_
  refine aw_sk ?_
  refine block_normal ?_
  refine then_normal ?_
  refine aw_p1 (
    .a 2 4 <| .nil _ _) ?_
  refine then_normal ?_
  refine al_round ?_
  refine aw_p 239 (
    .a 1 4 <| .nil _ _) ?_
  refine aw_sq 478 479 ?_
  refine aw_fl 957 ?_
  refine aw_ex 0 ?_
  refine then_exit ?_
  refine then_exit ?_
  refine block_exit ?_
  refine then_normal ?_
  refine aw_sq 30 31 ?_
  refine aw_p 61 (
    .a 3 4 <| .nil _ _) ?_
  refine aw_bl 2 123 ?_
  refine aw_lp 247 ?_
  refine al_round ?_
  refine aw_p 495 (
    .a 1 4 <| .nil _ _) ?_
  refine aw_sq 990 991 ?_
  refine aw_tr 1980 ?_
  refine aw_sk ?_
  refine then_normal ?_
  refine aw_sq 1982 1983 ?_
  refine aw_bl 3 3965 ?_
  refine aw_p 7931 (
    .a 5 4 <| .nil _ _) ?_
  refine aw_p 15863 (
    .a 2 4 <|
    .p (does_val (v' := sV 0 0) (does_slice (t := 25) (x := .tmp 32) (lo := none) (hi := some (.tmp 33)) (k := 0) (off := 0) (n := 3) (c := 0) (z := 1) (l := 0) (h := 0) (m := 0) (b := ⟨[sV 1 R1.length, sV 2 R2.length, sV 3 R3.length], 30, true, 1⟩) (by kernel_rfl) (by kernel_rfl) (by kernel_rfl) (by kernel_rfl) (by kernel_rfl) (by kernel_rfl) (by kernel_rfl) (by kernel_rfl) (by decide) (by decide) (by decide) (by decide)) (by kernel_rfl)) <|
    .a 2 4 <| .nil _ _) ?_
  refine aw_bl 4 31727 ?_
  refine aw_lp 63455 ?_
  refine al_round ?_
  refine aw_p 126911 (
    .a 1 4 <| .nil _ _) ?_
  refine aw_sq 253822 253823 ?_
  refine aw_fl 507645 ?_
  refine aw_ex 4 ?_
  refine then_exit ?_
  refine then_exit ?_
  refine block_exit ?_
  refine block_normal ?_
  refine then_normal ?_
  refine aw_p1 (
    .a 2 4 <| .nil _ _) ?_
  refine then_normal ?_
  refine al_round ?_
  refine aw_p 495 (
    .a 1 4 <| .nil _ _) ?_
  refine aw_sq 990 991 ?_
  refine aw_tr 1980 ?_
  refine aw_sk ?_
  refine then_normal ?_
  refine aw_sq 1982 1983 ?_
  refine aw_bl 3 3965 ?_
  refine aw_p 7931 (
    .a 5 4 <| .nil _ _) ?_
  refine aw_p 15863 (
    .a 2 4 <|
    .p (does_val (v' := sV 0 1) (does_slice (t := 25) (x := .tmp 32) (lo := none) (hi := some (.tmp 33)) (k := 0) (off := 0) (n := 3) (c := 0) (z := 1) (l := 0) (h := 1) (m := 1) (b := ⟨[sV 1 R1.length, sV 2 R2.length, sV 3 R3.length], 30, true, 1⟩) (by kernel_rfl) (by kernel_rfl) (by kernel_rfl) (by kernel_rfl) (by kernel_rfl) (by kernel_rfl) (by kernel_rfl) (by kernel_rfl) (by decide) (by decide) (by decide) (by decide)) (by kernel_rfl)) <|
    .a 2 4 <| .nil _ _) ?_
  refine aw_bl 4 31727 ?_
  refine aw_lp 63455 ?_
  refine al_round ?_
  refine aw_p 126911 (
    .a 1 4 <| .nil _ _) ?_
  refine aw_sq 253822 253823 ?_
  refine aw_tr 507644 ?_
  refine aw_sk ?_
  refine then_normal ?_
  refine aw_sq 507646 507647 ?_
  refine aw_bl 5 1015293 ?_
  refine aw_p 2030587 (
    .a 3 4 <| .nil _ _) ?_
  refine aw_p 4061175 (
    .a 2 4 <| .p (cS #[.tmp 40, .tmp 41] #[30, 30] [sV 2 R2.length, sV 1 R1.length] [2, 1] [(2, (pB R2)), (1, (pB R1))] (.bool true) (fits_ok R2 R1 1 (-1) zR2 fR2 zR1 fR1 F21) (.cons rS (.cons rS .nil)) ⟨rfl, bP, rfl, bP, trivial⟩ rF) <| .a 1 4 <| .nil _ _) ?_
  refine aw_fl 8122351 ?_
  refine aw_sk ?_
  refine block_normal ?_
  refine then_normal ?_
  refine aw_p1 (
    .a 2 4 <| .nil _ _) ?_
  refine then_normal ?_
  refine al_round ?_
  refine aw_p 126911 (
    .a 1 4 <| .nil _ _) ?_
  refine aw_sq 253822 253823 ?_
  refine aw_fl 507645 ?_
  refine aw_ex 4 ?_
  refine then_exit ?_
  refine then_exit ?_
  refine block_exit ?_
  refine block_normal ?_
  refine then_normal ?_
  refine aw_p1 (
    .a 2 4 <| .nil _ _) ?_
  refine then_normal ?_
  refine al_round ?_
  refine aw_p 495 (
    .a 1 4 <| .nil _ _) ?_
  refine aw_sq 990 991 ?_
  refine aw_tr 1980 ?_
  refine aw_sk ?_
  refine then_normal ?_
  refine aw_sq 1982 1983 ?_
  refine aw_bl 3 3965 ?_
  refine aw_p 7931 (
    .a 5 4 <| .nil _ _) ?_
  refine aw_p 15863 (
    .a 2 4 <|
    .p (does_val (v' := sV 0 2) (does_slice (t := 25) (x := .tmp 32) (lo := none) (hi := some (.tmp 33)) (k := 0) (off := 0) (n := 3) (c := 0) (z := 1) (l := 0) (h := 2) (m := 2) (b := ⟨[sV 1 R1.length, sV 2 R2.length, sV 3 R3.length], 30, true, 1⟩) (by kernel_rfl) (by kernel_rfl) (by kernel_rfl) (by kernel_rfl) (by kernel_rfl) (by kernel_rfl) (by kernel_rfl) (by kernel_rfl) (by decide) (by decide) (by decide) (by decide)) (by kernel_rfl)) <|
    .a 2 4 <| .nil _ _) ?_
  refine aw_bl 4 31727 ?_
  refine aw_lp 63455 ?_
  refine al_round ?_
  refine aw_p 126911 (
    .a 1 4 <| .nil _ _) ?_
  refine aw_sq 253822 253823 ?_
  refine aw_tr 507644 ?_
  refine aw_sk ?_
  refine then_normal ?_
  refine aw_sq 507646 507647 ?_
  refine aw_bl 5 1015293 ?_
  refine aw_p 2030587 (
    .a 3 4 <| .nil _ _) ?_
  refine aw_p 4061175 (
    .a 2 4 <| .p (cS #[.tmp 40, .tmp 41] #[30, 30] [sV 3 R3.length, sV 1 R1.length] [3, 1] [(3, (pB R3)), (1, (pB R1))] (.bool true) (fits_ok R3 R1 1 (-1) zR3 fR3 zR1 fR1 F31) (.cons rS (.cons rS .nil)) ⟨rfl, bP, rfl, bP, trivial⟩ rF) <| .a 1 4 <| .nil _ _) ?_
  refine aw_fl 8122351 ?_
  refine aw_sk ?_
  refine block_normal ?_
  refine then_normal ?_
  refine aw_p1 (
    .a 2 4 <| .nil _ _) ?_
  refine then_normal ?_
  refine al_round ?_
  refine aw_p 126911 (
    .a 1 4 <| .nil _ _) ?_
  refine aw_sq 253822 253823 ?_
  refine aw_tr 507644 ?_
  refine aw_sk ?_
  refine then_normal ?_
  refine aw_sq 507646 507647 ?_
  refine aw_bl 5 1015293 ?_
  refine aw_p 2030587 (
    .a 3 4 <| .nil _ _) ?_
  refine aw_p 4061175 (
    .a 2 4 <| .p (cS #[.tmp 40, .tmp 41] #[30, 30] [sV 3 R3.length, sV 2 R2.length] [3, 2] [(3, (pB R3)), (2, (pB R2))] (.bool true) (fits_ok R3 R2 1 (-1) zR3 fR3 zR2 fR2 F32) (.cons rS (.cons rS .nil)) ⟨rfl, bP, rfl, bP, trivial⟩ rF) <| .a 1 4 <| .nil _ _) ?_
  refine aw_fl 8122351 ?_
  refine aw_sk ?_
  refine block_normal ?_
  refine then_normal ?_
  refine aw_p1 (
    .a 2 4 <| .nil _ _) ?_
  refine then_normal ?_
  refine al_round ?_
  refine aw_p 126911 (
    .a 1 4 <| .nil _ _) ?_
  refine aw_sq 253822 253823 ?_
  refine aw_fl 507645 ?_
  refine aw_ex 4 ?_
  refine then_exit ?_
  refine then_exit ?_
  refine block_exit ?_
  refine block_normal ?_
  refine then_normal ?_
  refine aw_p1 (
    .a 2 4 <| .nil _ _) ?_
  refine then_normal ?_
  refine al_round ?_
  refine aw_p 495 (
    .a 1 4 <| .nil _ _) ?_
  refine aw_sq 990 991 ?_
  refine aw_fl 1981 ?_
  refine aw_ex 2 ?_
  refine then_exit ?_
  refine then_exit ?_
  refine block_exit ?_
  refine then_normal ?_
  refine aw_p 63 (
    .a 1 4 <| .nil _ _) ?_
  refine aw_rt ?_
  exact en_ret [.int .i64 0] (by kernel_rfl)
theorem adepth_n3 (R1 R2 R3 : List (Int × Int)) (zR1 : 1 ≤ R1.length ∧ R1.length ≤ 200) (fR1 : Sp.Few 1000 R1) (zR2 : 1 ≤ R2.length ∧ R2.length ≤ 200) (fR2 : Sp.Few 1000 R2) (zR3 : 1 ≤ R3.length ∧ R3.length ≤ 200) (fR3 : Sp.Few 1000 R3) (cR1 : Sp.chkF R1 = 0) (cR2 : Sp.chkF R2 = 0) (cR3 : Sp.chkF R3 = 0) (F21 : Sp.Fit R2 R1 1 (-1)) (F31 : Sp.Fit R3 R1 1 (-1)) (F32 : Sp.Fit R3 R2 1 (-1)) :
    AC Try.prog 13 4 ([sV 0 3]) [(0, ⟨[sV 1 R1.length, sV 2 R2.length, sV 3 R3.length], 30, true, 1⟩), (1, (pB R1)), (2, (pB R2)), (3, (pB R3))] (sV 4 3) [(0, ⟨[sV 1 R1.length, sV 2 R2.length, sV 3 R3.length], 30, true, 1⟩), (1, (pB R1)), (2, (pB R2)), (3, (pB R3)), (4, ⟨[.int .i64 0, .int .i64 1, .int .i64 2], 3, true, 1⟩)] := by
  refine ac_in Try.func13 (fun w0 W pin => ?_)
  refine aw_p 3 (
    .a 1 4 <| .nil _ _) ?_
  refine aw_sq 6 7 ?_
  refine aw_p 13 (
    .a 1 4 <|
    .p (cS #[.tmp 8] #[25] [sV 0 3] [0, 1, 2, 3] [(0, ⟨[sV 1 R1.length, sV 2 R2.length, sV 3 R3.length], 30, true, 1⟩), (1, (pB R1)), (2, (pB R2)), (3, (pB R3))] (.int .i64 0) (acheck_n3 R1 R2 R3 zR1 fR1 zR2 fR2 zR3 fR3 cR1 cR2 cR3 F21 F31 F32) (.cons rS .nil) ⟨rfl, ⟨rfl, rfl, rfl, (.cons rS (.cons rS (.cons rS .nil)))⟩, rfl, bP, rfl, bP, rfl, bP, trivial⟩ rF) <|
    .a 1 4 <| .nil _ _) ?_
  refine aw_fl 27 ?_
  refine aw_sk ?_
  refine then_normal ?_
  refine aw_p 15 (
    .a 2 4 <| .p (does_mk (kl := .i64) (kc := .i64) (n' := 3) (c' := 3) 4 3 1 8 3 3 (.int .i64 0) [.int .i64 0, .int .i64 0, .int .i64 0] (by kernel_rfl) (by kernel_rfl) (by kernel_rfl) (by kernel_rfl) (by decide) (by decide) (by decide) (by decide) (by decide)) <| .a 1 5 <| .nil _ _) ?_
  refine aw_sq 30 31 ?_
  refine aw_p 61 (
    .a 3 5 <| .nil _ _) ?_
  refine aw_bl 0 123 ?_
  refine aw_lp 247 ?_
  refine al_round ?_
  refine aw_p 495 (
    .a 1 5 <| .nil _ _) ?_
  refine aw_sq 990 991 ?_
  refine aw_tr 1980 ?_
  refine aw_sk ?_
  refine then_normal ?_
  refine aw_sq 1982 1983 ?_
  refine aw_bl 1 3965 ?_
  refine aw_p 7931 (
    .a 5 5 <| .nil _ _) ?_
  refine aw_p 15863 (
    .a 3 5 <| .nil _ _) ?_
  refine aw_bl 2 31727 ?_
  refine aw_lp 63455 ?_
  refine al_round ?_
  refine aw_p 126911 (
    .a 1 5 <| .nil _ _) ?_
  refine aw_sq 253822 253823 ?_
  refine aw_tr 507644 ?_
  refine aw_sk ?_
  refine then_normal ?_
  refine aw_sq 507646 507647 ?_
  refine aw_bl 3 1015293 ?_
  refine aw_p 2030587 (
    .a 5 5 <| .nil _ _) ?_
  refine aw_p 4061175 (
    .a 9 5 <| .nil _ _) ?_
  refine aw_fl 8122351 ?_
  refine aw_sk ?_
  refine block_normal ?_
  refine then_normal ?_
  refine aw_p1 (
    .a 2 5 <| .nil _ _) ?_
  refine then_normal ?_
  refine al_round ?_
  refine aw_p 126911 (
    .a 1 5 <| .nil _ _) ?_
  refine aw_sq 253822 253823 ?_
  refine aw_tr 507644 ?_
  refine aw_sk ?_
  refine then_normal ?_
  refine aw_sq 507646 507647 ?_
  refine aw_bl 3 1015293 ?_
  refine aw_p 2030587 (
    .a 5 5 <| .nil _ _) ?_
  refine aw_p 4061175 (
    .a 6 5 <|
    .p (cS (m := 2) (args0 := [sV 0 R1.length, .int .i64 0, sV 1 R2.length]) (pre0 := [(0, (pB R1)), (1, (pB R2))]) (v0 := .int .i64 (-1)) #[.tmp 32, .const (.int .i64 0), .tmp 33] #[30, 3, 30] [sV 1 R1.length, .int .i64 0, sV 2 R2.length] [1, 2] [(1, (pB R1)), (2, (pB R2))] (.int .i64 (-1)) ((by have h := side_ok R1 R2 zR1 fR1 zR2 fR2 0 (by omega); rw [Sp.side_at F21.2.2 (by omega)] at h; exact h)) (.cons rS (.cons rF (.cons rS .nil))) ⟨rfl, bP, rfl, bP, trivial⟩ rF) <|
    .a 2 5 <| .nil _ _) ?_
  refine aw_fl 8122351 ?_
  refine aw_sk ?_
  refine block_normal ?_
  refine then_normal ?_
  refine aw_p1 (
    .a 2 5 <| .nil _ _) ?_
  refine then_normal ?_
  refine al_round ?_
  refine aw_p 126911 (
    .a 1 5 <| .nil _ _) ?_
  refine aw_sq 253822 253823 ?_
  refine aw_tr 507644 ?_
  refine aw_sk ?_
  refine then_normal ?_
  refine aw_sq 507646 507647 ?_
  refine aw_bl 3 1015293 ?_
  refine aw_p 2030587 (
    .a 5 5 <| .nil _ _) ?_
  refine aw_p 4061175 (
    .a 6 5 <|
    .p (cS (m := 2) (args0 := [sV 0 R1.length, .int .i64 0, sV 1 R3.length]) (pre0 := [(0, (pB R1)), (1, (pB R3))]) (v0 := .int .i64 (-1)) #[.tmp 32, .const (.int .i64 0), .tmp 33] #[30, 3, 30] [sV 1 R1.length, .int .i64 0, sV 3 R3.length] [1, 3] [(1, (pB R1)), (3, (pB R3))] (.int .i64 (-1)) ((by have h := side_ok R1 R3 zR1 fR1 zR3 fR3 0 (by omega); rw [Sp.side_at F31.2.2 (by omega)] at h; exact h)) (.cons rS (.cons rF (.cons rS .nil))) ⟨rfl, bP, rfl, bP, trivial⟩ rF) <|
    .a 2 5 <| .nil _ _) ?_
  refine aw_fl 8122351 ?_
  refine aw_sk ?_
  refine block_normal ?_
  refine then_normal ?_
  refine aw_p1 (
    .a 2 5 <| .nil _ _) ?_
  refine then_normal ?_
  refine al_round ?_
  refine aw_p 126911 (
    .a 1 5 <| .nil _ _) ?_
  refine aw_sq 253822 253823 ?_
  refine aw_fl 507645 ?_
  refine aw_ex 2 ?_
  refine then_exit ?_
  refine then_exit ?_
  refine block_exit ?_
  refine block_normal ?_
  refine then_normal ?_
  refine aw_p1 (
    .a 2 5 <| .nil _ _) ?_
  refine then_normal ?_
  refine al_round ?_
  refine aw_p 495 (
    .a 1 5 <| .nil _ _) ?_
  refine aw_sq 990 991 ?_
  refine aw_tr 1980 ?_
  refine aw_sk ?_
  refine then_normal ?_
  refine aw_sq 1982 1983 ?_
  refine aw_bl 1 3965 ?_
  refine aw_p 7931 (
    .a 5 5 <| .nil _ _) ?_
  refine aw_p 15863 (
    .a 3 5 <| .nil _ _) ?_
  refine aw_bl 2 31727 ?_
  refine aw_lp 63455 ?_
  refine al_round ?_
  refine aw_p 126911 (
    .a 1 5 <| .nil _ _) ?_
  refine aw_sq 253822 253823 ?_
  refine aw_tr 507644 ?_
  refine aw_sk ?_
  refine then_normal ?_
  refine aw_sq 507646 507647 ?_
  refine aw_bl 3 1015293 ?_
  refine aw_p 2030587 (
    .a 5 5 <| .nil _ _) ?_
  refine aw_p 4061175 (
    .a 6 5 <|
    .p (cS (m := 2) (args0 := [sV 0 R2.length, .int .i64 0, sV 1 R1.length]) (pre0 := [(0, (pB R2)), (1, (pB R1))]) (v0 := .int .i64 1) #[.tmp 32, .const (.int .i64 0), .tmp 33] #[30, 3, 30] [sV 2 R2.length, .int .i64 0, sV 1 R1.length] [2, 1] [(2, (pB R2)), (1, (pB R1))] (.int .i64 1) ((by have h := side_ok R2 R1 zR2 fR2 zR1 fR1 0 (by omega); rw [Sp.side_at F21.2.1 (by omega)] at h; exact h)) (.cons rS (.cons rF (.cons rS .nil))) ⟨rfl, bP, rfl, bP, trivial⟩ rF) <|
    .a 2 5 <| .nil _ _) ?_
  refine aw_tr 8122350 ?_
  refine aw_p1 (
    .a 7 5 <| .nil _ _) ?_
  refine block_normal ?_
  refine then_normal ?_
  refine aw_p1 (
    .a 2 5 <| .nil _ _) ?_
  refine then_normal ?_
  refine al_round ?_
  refine aw_p 126911 (
    .a 1 5 <| .nil _ _) ?_
  refine aw_sq 253822 253823 ?_
  refine aw_tr 507644 ?_
  refine aw_sk ?_
  refine then_normal ?_
  refine aw_sq 507646 507647 ?_
  refine aw_bl 3 1015293 ?_
  refine aw_p 2030587 (
    .a 5 5 <| .nil _ _) ?_
  refine aw_p 4061175 (
    .a 9 5 <| .nil _ _) ?_
  refine aw_fl 8122351 ?_
  refine aw_sk ?_
  refine block_normal ?_
  refine then_normal ?_
  refine aw_p1 (
    .a 2 5 <| .nil _ _) ?_
  refine then_normal ?_
  refine al_round ?_
  refine aw_p 126911 (
    .a 1 5 <| .nil _ _) ?_
  refine aw_sq 253822 253823 ?_
  refine aw_tr 507644 ?_
  refine aw_sk ?_
  refine then_normal ?_
  refine aw_sq 507646 507647 ?_
  refine aw_bl 3 1015293 ?_
  refine aw_p 2030587 (
    .a 5 5 <| .nil _ _) ?_
  refine aw_p 4061175 (
    .a 6 5 <|
    .p (cS (m := 2) (args0 := [sV 0 R2.length, .int .i64 0, sV 1 R3.length]) (pre0 := [(0, (pB R2)), (1, (pB R3))]) (v0 := .int .i64 (-1)) #[.tmp 32, .const (.int .i64 0), .tmp 33] #[30, 3, 30] [sV 2 R2.length, .int .i64 0, sV 3 R3.length] [2, 3] [(2, (pB R2)), (3, (pB R3))] (.int .i64 (-1)) ((by have h := side_ok R2 R3 zR2 fR2 zR3 fR3 0 (by omega); rw [Sp.side_at F32.2.2 (by omega)] at h; exact h)) (.cons rS (.cons rF (.cons rS .nil))) ⟨rfl, bP, rfl, bP, trivial⟩ rF) <|
    .a 2 5 <| .nil _ _) ?_
  refine aw_fl 8122351 ?_
  refine aw_sk ?_
  refine block_normal ?_
  refine then_normal ?_
  refine aw_p1 (
    .a 2 5 <| .nil _ _) ?_
  refine then_normal ?_
  refine al_round ?_
  refine aw_p 126911 (
    .a 1 5 <| .nil _ _) ?_
  refine aw_sq 253822 253823 ?_
  refine aw_fl 507645 ?_
  refine aw_ex 2 ?_
  refine then_exit ?_
  refine then_exit ?_
  refine block_exit ?_
  refine block_normal ?_
  refine then_normal ?_
  refine aw_p1 (
    .a 2 5 <| .nil _ _) ?_
  refine then_normal ?_
  refine al_round ?_
  refine aw_p 495 (
    .a 1 5 <| .nil _ _) ?_
  refine aw_sq 990 991 ?_
  refine aw_tr 1980 ?_
  refine aw_sk ?_
  refine then_normal ?_
  refine aw_sq 1982 1983 ?_
  refine aw_bl 1 3965 ?_
  refine aw_p 7931 (
    .a 5 5 <| .nil _ _) ?_
  refine aw_p 15863 (
    .a 3 5 <| .nil _ _) ?_
  refine aw_bl 2 31727 ?_
  refine aw_lp 63455 ?_
  refine al_round ?_
  refine aw_p 126911 (
    .a 1 5 <| .nil _ _) ?_
  refine aw_sq 253822 253823 ?_
  refine aw_tr 507644 ?_
  refine aw_sk ?_
  refine then_normal ?_
  refine aw_sq 507646 507647 ?_
  refine aw_bl 3 1015293 ?_
  refine aw_p 2030587 (
    .a 5 5 <| .nil _ _) ?_
  refine aw_p 4061175 (
    .a 6 5 <|
    .p (cS (m := 2) (args0 := [sV 0 R3.length, .int .i64 0, sV 1 R1.length]) (pre0 := [(0, (pB R3)), (1, (pB R1))]) (v0 := .int .i64 1) #[.tmp 32, .const (.int .i64 0), .tmp 33] #[30, 3, 30] [sV 3 R3.length, .int .i64 0, sV 1 R1.length] [3, 1] [(3, (pB R3)), (1, (pB R1))] (.int .i64 1) ((by have h := side_ok R3 R1 zR3 fR3 zR1 fR1 0 (by omega); rw [Sp.side_at F31.2.1 (by omega)] at h; exact h)) (.cons rS (.cons rF (.cons rS .nil))) ⟨rfl, bP, rfl, bP, trivial⟩ rF) <|
    .a 2 5 <| .nil _ _) ?_
  refine aw_tr 8122350 ?_
  refine aw_p1 (
    .a 7 5 <| .nil _ _) ?_
  refine block_normal ?_
  refine then_normal ?_
  refine aw_p1 (
    .a 2 5 <| .nil _ _) ?_
  refine then_normal ?_
  refine al_round ?_
  refine aw_p 126911 (
    .a 1 5 <| .nil _ _) ?_
  refine aw_sq 253822 253823 ?_
  refine aw_tr 507644 ?_
  refine aw_sk ?_
  refine then_normal ?_
  refine aw_sq 507646 507647 ?_
  refine aw_bl 3 1015293 ?_
  refine aw_p 2030587 (
    .a 5 5 <| .nil _ _) ?_
  refine aw_p 4061175 (
    .a 6 5 <|
    .p (cS (m := 2) (args0 := [sV 0 R3.length, .int .i64 0, sV 1 R2.length]) (pre0 := [(0, (pB R3)), (1, (pB R2))]) (v0 := .int .i64 1) #[.tmp 32, .const (.int .i64 0), .tmp 33] #[30, 3, 30] [sV 3 R3.length, .int .i64 0, sV 2 R2.length] [3, 2] [(3, (pB R3)), (2, (pB R2))] (.int .i64 1) ((by have h := side_ok R3 R2 zR3 fR3 zR2 fR2 0 (by omega); rw [Sp.side_at F32.2.1 (by omega)] at h; exact h)) (.cons rS (.cons rF (.cons rS .nil))) ⟨rfl, bP, rfl, bP, trivial⟩ rF) <|
    .a 2 5 <| .nil _ _) ?_
  refine aw_tr 8122350 ?_
  refine aw_p1 (
    .a 7 5 <| .nil _ _) ?_
  refine block_normal ?_
  refine then_normal ?_
  refine aw_p1 (
    .a 2 5 <| .nil _ _) ?_
  refine then_normal ?_
  refine al_round ?_
  refine aw_p 126911 (
    .a 1 5 <| .nil _ _) ?_
  refine aw_sq 253822 253823 ?_
  refine aw_tr 507644 ?_
  refine aw_sk ?_
  refine then_normal ?_
  refine aw_sq 507646 507647 ?_
  refine aw_bl 3 1015293 ?_
  refine aw_p 2030587 (
    .a 5 5 <| .nil _ _) ?_
  refine aw_p 4061175 (
    .a 9 5 <| .nil _ _) ?_
  refine aw_fl 8122351 ?_
  refine aw_sk ?_
  refine block_normal ?_
  refine then_normal ?_
  refine aw_p1 (
    .a 2 5 <| .nil _ _) ?_
  refine then_normal ?_
  refine al_round ?_
  refine aw_p 126911 (
    .a 1 5 <| .nil _ _) ?_
  refine aw_sq 253822 253823 ?_
  refine aw_fl 507645 ?_
  refine aw_ex 2 ?_
  refine then_exit ?_
  refine then_exit ?_
  refine block_exit ?_
  refine block_normal ?_
  refine then_normal ?_
  refine aw_p1 (
    .a 2 5 <| .nil _ _) ?_
  refine then_normal ?_
  refine al_round ?_
  refine aw_p 495 (
    .a 1 5 <| .nil _ _) ?_
  refine aw_sq 990 991 ?_
  refine aw_fl 1981 ?_
  refine aw_ex 0 ?_
  refine then_exit ?_
  refine then_exit ?_
  refine block_exit ?_
  refine then_normal ?_
  refine aw_p 63 (
    .a 2 5 <| .nil _ _) ?_
  refine aw_rt ?_
  exact en_ret [sV 4 3] (by kernel_rfl)
theorem atwice_n3 (R1 R2 R3 : List (Int × Int)) (zR1 : 1 ≤ R1.length ∧ R1.length ≤ 200) (fR1 : Sp.Few 1000 R1) (zR2 : 1 ≤ R2.length ∧ R2.length ≤ 200) (fR2 : Sp.Few 1000 R2) (zR3 : 1 ≤ R3.length ∧ R3.length ≤ 200) (fR3 : Sp.Few 1000 R3) (cR1 : Sp.chkF R1 = 0) (cR2 : Sp.chkF R2 = 0) (cR3 : Sp.chkF R3 = 0) (F21 : Sp.Fit R2 R1 1 (-1)) (F31 : Sp.Fit R3 R1 1 (-1)) (F32 : Sp.Fit R3 R2 1 (-1)) (a1 a2 a3 : Int) (t1 : Sp.twF R1 1 0 = a1) (b1 : -100000 ≤ a1 ∧ a1 ≤ 100000) (t2 : Sp.twF R2 1 0 = a2) (b2 : -100000 ≤ a2 ∧ a2 ≤ 100000) (t3 : Sp.twF R3 1 0 = a3) (b3 : -100000 ≤ a3 ∧ a3 ≤ 100000) :
    AC Try.prog 21 4 ([sV 0 3]) [(0, ⟨[sV 1 R1.length, sV 2 R2.length, sV 3 R3.length], 30, true, 1⟩), (1, (pB R1)), (2, (pB R2)), (3, (pB R3))] (.int .i64 (((0 + (Sp.mx a1 (0 - a1))) + (0 - (Sp.mx a2 (0 - a2)))) + (Sp.mx a3 (0 - a3)))) [(0, ⟨[sV 1 R1.length, sV 2 R2.length, sV 3 R3.length], 30, true, 1⟩), (1, (pB R1)), (2, (pB R2)), (3, (pB R3))] := by
  have m1 : 0 ≤ Sp.mx a1 (0 - a1) ∧ Sp.mx a1 (0 - a1) ≤ 100000 := (by unfold Sp.mx; split <;> omega); have m2 : 0 ≤ Sp.mx a2 (0 - a2) ∧ Sp.mx a2 (0 - a2) ≤ 100000 := (by unfold Sp.mx; split <;> omega); have m3 : 0 ≤ Sp.mx a3 (0 - a3) ∧ Sp.mx a3 (0 - a3) ≤ 100000 := (by unfold Sp.mx; split <;> omega)
  refine ac_in Try.func21 (fun w0 W pin => ?_)
  refine aw_p 3 (
    .a 1 4 <| .nil _ _) ?_
  refine aw_p 7 (
    .a 1 4 <| .nil _ _) ?_
  refine aw_sq 14 15 ?_
  refine aw_p 29 (
    .a 1 4 <|
    .p (cF #[.tmp 7] #[25] [sV 0 3] 1 [0, 1, 2, 3, 4] [(0, ⟨[sV 1 R1.length, sV 2 R2.length, sV 3 R3.length], 30, true, 1⟩), (1, (pB R1)), (2, (pB R2)), (3, (pB R3))] [(0, ⟨[sV 1 R1.length, sV 2 R2.length, sV 3 R3.length], 30, true, 1⟩), (1, (pB R1)), (2, (pB R2)), (3, (pB R3)), (4, ⟨[.int .i64 0, .int .i64 1, .int .i64 2], 3, true, 1⟩)] (sV 4 3) (adepth_n3 R1 R2 R3 zR1 fR1 zR2 fR2 zR3 fR3 cR1 cR2 cR3 F21 F31 F32) (.cons rS .nil) ⟨rfl, ⟨rfl, rfl, rfl, (.cons rS (.cons rS (.cons rS .nil)))⟩, rfl, bP, rfl, bP, rfl, bP, trivial⟩ ⟨rfl, ⟨rfl, rfl, rfl, (.cons rS (.cons rS (.cons rS .nil)))⟩, rfl, bP, rfl, bP, rfl, bP, rfl, ⟨rfl, rfl, rfl, (.flats (by kernel_rfl))⟩, trivial⟩ rS) <|
    .a 2 5 <| .nil _ _) ?_
  refine aw_bl 0 59 ?_
  refine aw_lp 119 ?_
  refine al_round ?_
  refine aw_p 239 (
    .a 1 5 <| .nil _ _) ?_
  refine aw_sq 478 479 ?_
  refine aw_tr 956 ?_
  refine aw_sk ?_
  refine then_normal ?_
  refine aw_sq 958 959 ?_
  refine aw_bl 1 1917 ?_
  refine aw_p 3835 (
    .a 5 5 <| .nil _ _) ?_
  refine aw_p 7671 (
    .a 4 5 <| .p (cS (m := 1) (args0 := [sV 0 R1.length]) (pre0 := [(0, (pB R1))]) (v0 := .int .i64 a1) #[.tmp 18] #[30] [sV 1 R1.length] [1] [(1, (pB R1))] (.int .i64 a1) ((by have h := twicen_own R1 R1.length rfl (by omega); rw [t1] at h; exact h)) (.cons rS .nil) ⟨rfl, bP, trivial⟩ rF) <| .a 1 5 <| .nil _ _) ?_
  refine aw_p 15343 (
    .a 2 5 <| .p (does_i (0 - a1) (wrap_i64 (by omega) (by omega)) .i64) <| .a 2 5 <| .nil _ _) ?_
  refine aw_sq 30686 30687 ?_
  refine aw_p 61373 (
    .a 3 5 <| .nil _ _) ?_
  refine aw_fl 122747 ?_
  refine aw_sk ?_
  refine then_normal ?_
  refine aw_p1 (
    .a 2 5 <| .p (does_i (0 + (Sp.mx a1 (0 - a1))) (wrap_i64 (by omega) (by omega)) .i64) <| .a 1 5 <| .nil _ _) ?_
  refine block_normal ?_
  refine then_normal ?_
  refine aw_p1 (
    .a 2 5 <| .nil _ _) ?_
  refine then_normal ?_
  refine al_round ?_
  refine aw_p 239 (
    .a 1 5 <| .nil _ _) ?_
  refine aw_sq 478 479 ?_
  refine aw_tr 956 ?_
  refine aw_sk ?_
  refine then_normal ?_
  refine aw_sq 958 959 ?_
  refine aw_bl 1 1917 ?_
  refine aw_p 3835 (
    .a 5 5 <| .nil _ _) ?_
  refine aw_p 7671 (
    .a 4 5 <| .p (cS (m := 1) (args0 := [sV 0 R2.length]) (pre0 := [(0, (pB R2))]) (v0 := .int .i64 a2) #[.tmp 18] #[30] [sV 2 R2.length] [2] [(2, (pB R2))] (.int .i64 a2) ((by have h := twicen_own R2 R2.length rfl (by omega); rw [t2] at h; exact h)) (.cons rS .nil) ⟨rfl, bP, trivial⟩ rF) <| .a 1 5 <| .nil _ _) ?_
  refine aw_p 15343 (
    .a 2 5 <| .p (does_i (0 - a2) (wrap_i64 (by omega) (by omega)) .i64) <| .a 2 5 <| .nil _ _) ?_
  refine aw_sq 30686 30687 ?_
  refine aw_p 61373 (
    .a 3 5 <| .nil _ _) ?_
  refine aw_tr 122746 ?_
  refine aw_p1 (
    .a 1 5 <| .p (does_i (0 - (Sp.mx a2 (0 - a2))) (wrap_i64 (by omega) (by omega)) .i64) <| .a 1 5 <| .nil _ _) ?_
  refine then_normal ?_
  refine aw_p1 (
    .a 2 5 <| .p (does_i ((0 + (Sp.mx a1 (0 - a1))) + (0 - (Sp.mx a2 (0 - a2)))) (wrap_i64 (by omega) (by omega)) .i64) <| .a 1 5 <| .nil _ _) ?_
  refine block_normal ?_
  refine then_normal ?_
  refine aw_p1 (
    .a 2 5 <| .nil _ _) ?_
  refine then_normal ?_
  refine al_round ?_
  refine aw_p 239 (
    .a 1 5 <| .nil _ _) ?_
  refine aw_sq 478 479 ?_
  refine aw_tr 956 ?_
  refine aw_sk ?_
  refine then_normal ?_
  refine aw_sq 958 959 ?_
  refine aw_bl 1 1917 ?_
  refine aw_p 3835 (
    .a 5 5 <| .nil _ _) ?_
  refine aw_p 7671 (
    .a 4 5 <| .p (cS (m := 1) (args0 := [sV 0 R3.length]) (pre0 := [(0, (pB R3))]) (v0 := .int .i64 a3) #[.tmp 18] #[30] [sV 3 R3.length] [3] [(3, (pB R3))] (.int .i64 a3) ((by have h := twicen_own R3 R3.length rfl (by omega); rw [t3] at h; exact h)) (.cons rS .nil) ⟨rfl, bP, trivial⟩ rF) <| .a 1 5 <| .nil _ _) ?_
  refine aw_p 15343 (
    .a 2 5 <| .p (does_i (0 - a3) (wrap_i64 (by omega) (by omega)) .i64) <| .a 2 5 <| .nil _ _) ?_
  refine aw_sq 30686 30687 ?_
  refine aw_p 61373 (
    .a 3 5 <| .nil _ _) ?_
  refine aw_fl 122747 ?_
  refine aw_sk ?_
  refine then_normal ?_
  refine aw_p1 (
    .a 2 5 <| .p (does_i (((0 + (Sp.mx a1 (0 - a1))) + (0 - (Sp.mx a2 (0 - a2)))) + (Sp.mx a3 (0 - a3))) (wrap_i64 (by omega) (by omega)) .i64) <| .a 1 5 <| .nil _ _) ?_
  refine block_normal ?_
  refine then_normal ?_
  refine aw_p1 (
    .a 2 5 <| .nil _ _) ?_
  refine then_normal ?_
  refine al_round ?_
  refine aw_p 239 (
    .a 1 5 <| .nil _ _) ?_
  refine aw_sq 478 479 ?_
  refine aw_fl 957 ?_
  refine aw_ex 0 ?_
  refine then_exit ?_
  refine then_exit ?_
  refine block_exit ?_
  refine then_normal ?_
  refine aw_p 31 (
    .a 2 5 <| .nil _ _) ?_
  refine aw_rt ?_
  exact en_ret [.int .i64 (((0 + (Sp.mx a1 (0 - a1))) + (0 - (Sp.mx a2 (0 - a2)))) + (Sp.mx a3 (0 - a3)))] (by kernel_rfl)
end Go.Proofs.Ytndkhgfecnbmnaa.Am

namespace Go.Proofs.Ytndkhgfecnbmnaa.Am
open Go Go.Proofs
set_option maxRecDepth 100000
set_option maxHeartbeats 4000000
set_option linter.unusedVariables false
set_option linter.unusedSimpArgs false
theorem areaNorms_rest_2 (xs : List Int) (R1 R2 R3 : List (Int × Int)) (zR1 : 1 ≤ R1.length ∧ R1.length ≤ 200) (fR1 : Sp.Few 1000 R1) (zR2 : 1 ≤ R2.length ∧ R2.length ≤ 200) (fR2 : Sp.Few 1000 R2) (zR3 : 1 ≤ R3.length ∧ R3.length ≤ 200) (fR3 : Sp.Few 1000 R3) (cR1 : Sp.chkF R1 = 0) (cR2 : Sp.chkF R2 = 0) (cR3 : Sp.chkF R3 = 0) (F21 : Sp.Fit R2 R1 1 (-1)) (F31 : Sp.Fit R3 R1 1 (-1)) (F32 : Sp.Fit R3 R2 1 (-1)) (hm : AC Try.prog 9 1 [.slice (some ⟨0, 0, none⟩) xs.length 0] [(0, ⟨(xs.map i64v), 3, false, 1⟩)] (.slice (some ⟨1, 0, none⟩) 3 0) [(1, ⟨[sV 2 R1.length, sV 3 R2.length, sV 4 R3.length], 30, true, 1⟩), (2, (pB R1)), (3, (pB R2)), (4, (pB R3))]) (hn : AC Try.prog 22 4 [.slice (some ⟨0, 0, none⟩) 3 0] [(0, ⟨[sV 1 R1.length, sV 2 R2.length, sV 3 R3.length], 30, true, 1⟩), (1, (pB R1)), (2, (pB R2)), (3, (pB R3))] (.slice (some ⟨4, 0, none⟩) 3 0) [(0, ⟨[sV 1 R1.length, sV 2 R2.length, sV 3 R3.length], 30, true, 1⟩), (1, (pB R1)), (2, (pB R2)), (3, (pB R3)), (4, ⟨[sV 5 R1.length, sV 6 R2.length, sV 7 R3.length], 30, true, 1⟩), (5, (pB R1)), (6, (pB R2)), (7, (pB R3))]) (hq : AC Try.prog 22 4 [.slice (some ⟨0, 0, none⟩) 3 0] [(0, ⟨[sV 1 R3.length, sV 2 R2.length, sV 3 R1.length], 30, true, 1⟩), (1, (pB (R3.reverse))), (2, (pB (R2.reverse))), (3, (pB (R1.reverse)))] (.slice (some ⟨4, 0, none⟩) 3 0) [(0, ⟨[sV 1 R3.length, sV 2 R2.length, sV 3 R1.length], 30, true, 1⟩), (1, (pB (R3.reverse))), (2, (pB (R2.reverse))), (3, (pB (R1.reverse))), (4, ⟨[sV 5 R1.length, sV 6 R2.length, sV 7 R3.length], 30, true, 1⟩), (5, (pB R1)), (6, (pB R2)), (7, (pB R3))]) (x px py : Int) (hx : AC Try.prog 10 0 [.int .i64 x] [] (.agg #[.int .i64 px, .int .i64 py]) []) (bpx : -40 ≤ px) (cpx : px ≤ 40) (bpy : -40 ≤ py) (cpy : py ≤ 40) (a1 a2 a3 : Int) (t1 : Sp.twF R1 1 0 = a1) (b1 : -100000 ≤ a1 ∧ a1 ≤ 100000) (t2 : Sp.twF R2 1 0 = a2) (b2 : -100000 ≤ a2 ∧ a2 ≤ 100000) (t3 : Sp.twF R3 1 0 = a3) (b3 : -100000 ≤ a3 ∧ a3 ≤ 100000) (ap : 0 < ((0 + (Sp.mx a1 (0 - a1))) + (0 - (Sp.mx a2 (0 - a2)))) + (Sp.mx a3 (0 - a3))) (w0 : World) (W : Nat → Prop) (pin : Ren) (ds : List Deferred) :
    AW ⟨w0, W, Try.f5.ntmps, 1, pin, ds⟩ Try.prog (sb Try.f5 63) (mkSt 1 [(5, sV 1 3), (6, .pointer (some ⟨5, 0, none⟩)), (7, .pointer (some ⟨6, 0, none⟩)), (19, .func (.func 73) #[] #[.pointer (some ⟨7, 0, none⟩)])] [(2, (pB R1)), (3, (pB R2)), (4, (pB R3)), (6, ⟨[sV 8 3], 25, true, 1⟩), (8, ⟨[sV 9 R3.length, sV 10 R2.length, sV 11 R1.length], 30, true, 1⟩), (9, (pB (R3.reverse))), (10, (pB (R2.reverse))), (11, (pB (R1.reverse))), (0, ⟨(xs.map i64v), 3, false, 1⟩), (1, ⟨[sV 2 R1.length, sV 3 R2.length, sV 4 R3.length], 30, true, 1⟩), (5, ⟨[.int .i64 px, .int .i64 py], 28, true, 2⟩), (7, ⟨[sV 1 3], 25, true, 1⟩)]) (EndQ Try.prog Try.f5 (.bool true) []) := by
  have m1 : 0 ≤ Sp.mx a1 (0 - a1) ∧ Sp.mx a1 (0 - a1) ≤ 100000 := (by unfold Sp.mx; split <;> omega); have m2 : 0 ≤ Sp.mx a2 (0 - a2) ∧ Sp.mx a2 (0 - a2) ≤ 100000 := (by unfold Sp.mx; split <;> omega); have m3 : 0 ≤ Sp.mx a3 (0 - a3) ∧ Sp.mx a3 (0 - a3) ≤ 100000 := (by unfold Sp.mx; split <;> omega)
  refine aw_p 127 (
    .a 1 12 <|
    .p (cF #[.tmp 30] #[25] [sV 1 3] 4 [1, 2, 3, 4, 12, 13, 14, 15] [(1, ⟨[sV 2 R1.length, sV 3 R2.length, sV 4 R3.length], 30, true, 1⟩), (2, (pB R1)), (3, (pB R2)), (4, (pB R3))] [(1, ⟨[sV 2 R1.length, sV 3 R2.length, sV 4 R3.length], 30, true, 1⟩), (2, (pB R1)), (3, (pB R2)), (4, (pB R3)), (12, ⟨[sV 13 R1.length, sV 14 R2.length, sV 15 R3.length], 30, true, 1⟩), (13, (pB R1)), (14, (pB R2)), (15, (pB R3))] (sV 12 3) (hn) (.cons rS .nil) ⟨rfl, ⟨rfl, rfl, rfl, (.cons rS (.cons rS (.cons rS .nil)))⟩, rfl, bP, rfl, bP, rfl, bP, trivial⟩ ⟨rfl, ⟨rfl, rfl, rfl, (.cons rS (.cons rS (.cons rS .nil)))⟩, rfl, bP, rfl, bP, rfl, bP, rfl, ⟨rfl, rfl, rfl, (.cons rS (.cons rS (.cons rS .nil)))⟩, rfl, bP, rfl, bP, rfl, bP, trivial⟩ rS) <|
    .a 1 16 <| .nil _ _) ?_
  refine aw_d 255 (
    .a 1 16 <|
    .p (cS #[.tmp 32] #[25] [sV 1 3] [1, 2, 3, 4] [(1, ⟨[sV 2 R1.length, sV 3 R2.length, sV 4 R3.length], 30, true, 1⟩), (2, (pB R1)), (3, (pB R2)), (4, (pB R3))] (.int .i64 0) (acheck_n3 R1 R2 R3 zR1 fR1 zR2 fR2 zR3 fR3 cR1 cR2 cR3 F21 F31 F32) (.cons rS .nil) ⟨rfl, ⟨rfl, rfl, rfl, (.cons rS (.cons rS (.cons rS .nil)))⟩, rfl, bP, rfl, bP, rfl, bP, trivial⟩ rF) <|
    .a 3 16 <|
    .p (cS #[.tmp 36] #[25] [sV 12 3] [12, 13, 14, 15] [(12, ⟨[sV 13 R1.length, sV 14 R2.length, sV 15 R3.length], 30, true, 1⟩), (13, (pB R1)), (14, (pB R2)), (15, (pB R3))] (.int .i64 0) (acheck_n3 R1 R2 R3 zR1 fR1 zR2 fR2 zR3 fR3 cR1 cR2 cR3 F21 F31 F32) (.cons rS .nil) ⟨rfl, ⟨rfl, rfl, rfl, (.cons rS (.cons rS (.cons rS .nil)))⟩, rfl, bP, rfl, bP, rfl, bP, trivial⟩ rF) <|
    .a 11 16 <|
    .p (cF #[.tmp 48] #[25] [sV 8 3] 4 [8, 9, 10, 11, 16, 17, 18, 19] [(8, ⟨[sV 9 R3.length, sV 10 R2.length, sV 11 R1.length], 30, true, 1⟩), (9, (pB (R3.reverse))), (10, (pB (R2.reverse))), (11, (pB (R1.reverse)))] [(8, ⟨[sV 9 R3.length, sV 10 R2.length, sV 11 R1.length], 30, true, 1⟩), (9, (pB (R3.reverse))), (10, (pB (R2.reverse))), (11, (pB (R1.reverse))), (16, ⟨[sV 17 R1.length, sV 18 R2.length, sV 19 R3.length], 30, true, 1⟩), (17, (pB R1)), (18, (pB R2)), (19, (pB R3))] (sV 16 3) (hq) (.cons rS .nil) ⟨rfl, ⟨rfl, rfl, rfl, (.cons rS (.cons rS (.cons rS .nil)))⟩, rfl, bP, rfl, bP, rfl, bP, trivial⟩ ⟨rfl, ⟨rfl, rfl, rfl, (.cons rS (.cons rS (.cons rS .nil)))⟩, rfl, bP, rfl, bP, rfl, bP, rfl, ⟨rfl, rfl, rfl, (.cons rS (.cons rS (.cons rS .nil)))⟩, rfl, bP, rfl, bP, rfl, bP, trivial⟩ rS) <|
    .a 1 20 <|
    .p (cS #[.tmp 49, .tmp 50, .func 30] #[25, 25, 49] [sV 16 3, sV 12 3, .func (.func 30) #[] #[]] [16, 17, 18, 19, 12, 13, 14, 15] [(16, ⟨[sV 17 R1.length, sV 18 R2.length, sV 19 R3.length], 30, true, 1⟩), (17, (pB R1)), (18, (pB R2)), (19, (pB R3)), (12, ⟨[sV 13 R1.length, sV 14 R2.length, sV 15 R3.length], 30, true, 1⟩), (13, (pB R1)), (14, (pB R2)), (15, (pB R3))] (.bool true) (eqf_3 R1 R2 R3 zR1 zR2 zR3) (.cons rS (.cons rS (.cons rF .nil))) ⟨rfl, ⟨rfl, rfl, rfl, (.cons rS (.cons rS (.cons rS .nil)))⟩, rfl, bP, rfl, bP, rfl, bP, rfl, ⟨rfl, rfl, rfl, (.cons rS (.cons rS (.cons rS .nil)))⟩, rfl, bP, rfl, bP, rfl, bP, trivial⟩ rF) <|
    .a 3 20 <|
    .p (cF #[.tmp 54] #[25] [sV 12 3] 4 [12, 13, 14, 15, 20, 21, 22, 23] [(12, ⟨[sV 13 R1.length, sV 14 R2.length, sV 15 R3.length], 30, true, 1⟩), (13, (pB R1)), (14, (pB R2)), (15, (pB R3))] [(12, ⟨[sV 13 R1.length, sV 14 R2.length, sV 15 R3.length], 30, true, 1⟩), (13, (pB R1)), (14, (pB R2)), (15, (pB R3)), (20, ⟨[sV 21 R1.length, sV 22 R2.length, sV 23 R3.length], 30, true, 1⟩), (21, (pB R1)), (22, (pB R2)), (23, (pB R3))] (sV 20 3) (hn) (.cons rS .nil) ⟨rfl, ⟨rfl, rfl, rfl, (.cons rS (.cons rS (.cons rS .nil)))⟩, rfl, bP, rfl, bP, rfl, bP, trivial⟩ ⟨rfl, ⟨rfl, rfl, rfl, (.cons rS (.cons rS (.cons rS .nil)))⟩, rfl, bP, rfl, bP, rfl, bP, rfl, ⟨rfl, rfl, rfl, (.cons rS (.cons rS (.cons rS .nil)))⟩, rfl, bP, rfl, bP, rfl, bP, trivial⟩ rS) <|
    .a 1 24 <|
    .p (cS #[.tmp 55, .tmp 56, .func 30] #[25, 25, 49] [sV 20 3, sV 12 3, .func (.func 30) #[] #[]] [20, 21, 22, 23, 12, 13, 14, 15] [(20, ⟨[sV 21 R1.length, sV 22 R2.length, sV 23 R3.length], 30, true, 1⟩), (21, (pB R1)), (22, (pB R2)), (23, (pB R3)), (12, ⟨[sV 13 R1.length, sV 14 R2.length, sV 15 R3.length], 30, true, 1⟩), (13, (pB R1)), (14, (pB R2)), (15, (pB R3))] (.bool true) (eqf_3 R1 R2 R3 zR1 zR2 zR3) (.cons rS (.cons rS (.cons rF .nil))) ⟨rfl, ⟨rfl, rfl, rfl, (.cons rS (.cons rS (.cons rS .nil)))⟩, rfl, bP, rfl, bP, rfl, bP, rfl, ⟨rfl, rfl, rfl, (.cons rS (.cons rS (.cons rS .nil)))⟩, rfl, bP, rfl, bP, rfl, bP, trivial⟩ rF) <|
    .a 4 24 <|
    .p (cS #[.tmp 60, .tmp 61] #[25, 28] [sV 12 3, .agg #[.int .i64 px, .int .i64 py]] [12, 13, 14, 15] [(12, ⟨[sV 13 R1.length, sV 14 R2.length, sV 15 R3.length], 30, true, 1⟩), (13, (pB R1)), (14, (pB R2)), (15, (pB R3))] (.int .i64 (Sp.ahF [Sp.hasF R1 (Sp.lim 1048576 px) (Sp.lim 1048576 py) 0 (-1), Sp.hasF R2 (Sp.lim 1048576 px) (Sp.lim 1048576 py) 0 (-1), Sp.hasF R3 (Sp.lim 1048576 px) (Sp.lim 1048576 py) 0 (-1)] (-1))) (ahas_3 R1 R2 R3 zR1 fR1 zR2 fR2 zR3 fR3 px py) (.cons rS (.cons rF .nil)) ⟨rfl, ⟨rfl, rfl, rfl, (.cons rS (.cons rS (.cons rS .nil)))⟩, rfl, bP, rfl, bP, rfl, bP, trivial⟩ rF) <|
    .a 2 24 <|
    .p (cS #[.tmp 63, .tmp 64] #[25, 28] [sV 1 3, .agg #[.int .i64 px, .int .i64 py]] [1, 2, 3, 4] [(1, ⟨[sV 2 R1.length, sV 3 R2.length, sV 4 R3.length], 30, true, 1⟩), (2, (pB R1)), (3, (pB R2)), (4, (pB R3))] (.int .i64 (Sp.ahF [Sp.hasF R1 (Sp.lim 1048576 px) (Sp.lim 1048576 py) 0 (-1), Sp.hasF R2 (Sp.lim 1048576 px) (Sp.lim 1048576 py) 0 (-1), Sp.hasF R3 (Sp.lim 1048576 px) (Sp.lim 1048576 py) 0 (-1)] (-1))) (ahas_3 R1 R2 R3 zR1 fR1 zR2 fR2 zR3 fR3 px py) (.cons rS (.cons rF .nil)) ⟨rfl, ⟨rfl, rfl, rfl, (.cons rS (.cons rS (.cons rS .nil)))⟩, rfl, bP, rfl, bP, rfl, bP, trivial⟩ rF) <|
    .p (does_b true ((show ((Sp.ahF [Sp.hasF R1 (Sp.lim 1048576 px) (Sp.lim 1048576 py) 0 (-1), Sp.hasF R2 (Sp.lim 1048576 px) (Sp.lim 1048576 py) 0 (-1), Sp.hasF R3 (Sp.lim 1048576 px) (Sp.lim 1048576 py) 0 (-1)] (-1)) == (Sp.ahF [Sp.hasF R1 (Sp.lim 1048576 px) (Sp.lim 1048576 py) 0 (-1), Sp.hasF R2 (Sp.lim 1048576 px) (Sp.lim 1048576 py) 0 (-1), Sp.hasF R3 (Sp.lim 1048576 px) (Sp.lim 1048576 py) 0 (-1)] (-1))) = true from by simp))) <|
    .a 3 24 <|
    .p (cS #[.tmp 69] #[25] [sV 12 3] [12, 13, 14, 15] [(12, ⟨[sV 13 R1.length, sV 14 R2.length, sV 15 R3.length], 30, true, 1⟩), (13, (pB R1)), (14, (pB R2)), (15, (pB R3))] (.int .i64 (((0 + (Sp.mx a1 (0 - a1))) + (0 - (Sp.mx a2 (0 - a2)))) + (Sp.mx a3 (0 - a3)))) (atwice_n3 R1 R2 R3 zR1 fR1 zR2 fR2 zR3 fR3 cR1 cR2 cR3 F21 F31 F32 a1 a2 a3 t1 b1 t2 b2 t3 b3) (.cons rS .nil) ⟨rfl, ⟨rfl, rfl, rfl, (.cons rS (.cons rS (.cons rS .nil)))⟩, rfl, bP, rfl, bP, rfl, bP, trivial⟩ rF) <|
    .a 1 24 <|
    .p (cS #[.tmp 71] #[25] [sV 1 3] [1, 2, 3, 4] [(1, ⟨[sV 2 R1.length, sV 3 R2.length, sV 4 R3.length], 30, true, 1⟩), (2, (pB R1)), (3, (pB R2)), (4, (pB R3))] (.int .i64 (((0 + (Sp.mx a1 (0 - a1))) + (0 - (Sp.mx a2 (0 - a2)))) + (Sp.mx a3 (0 - a3)))) (atwice_n3 R1 R2 R3 zR1 fR1 zR2 fR2 zR3 fR3 cR1 cR2 cR3 F21 F31 F32 a1 a2 a3 t1 b1 t2 b2 t3 b3) (.cons rS .nil) ⟨rfl, ⟨rfl, rfl, rfl, (.cons rS (.cons rS (.cons rS .nil)))⟩, rfl, bP, rfl, bP, rfl, bP, trivial⟩ rF) <|
    .p (does_b true ((show ((((0 + (Sp.mx a1 (0 - a1))) + (0 - (Sp.mx a2 (0 - a2)))) + (Sp.mx a3 (0 - a3))) == (((0 + (Sp.mx a1 (0 - a1))) + (0 - (Sp.mx a2 (0 - a2)))) + (Sp.mx a3 (0 - a3)))) = true from by simp))) <| .a 3 24 <|
    .p (cS #[.tmp 76] #[25] [sV 1 3] [1, 2, 3, 4] [(1, ⟨[sV 2 R1.length, sV 3 R2.length, sV 4 R3.length], 30, true, 1⟩), (2, (pB R1)), (3, (pB R2)), (4, (pB R3))] (.int .i64 (((0 + (Sp.mx a1 (0 - a1))) + (0 - (Sp.mx a2 (0 - a2)))) + (Sp.mx a3 (0 - a3)))) (atwice_n3 R1 R2 R3 zR1 fR1 zR2 fR2 zR3 fR3 cR1 cR2 cR3 F21 F31 F32 a1 a2 a3 t1 b1 t2 b2 t3 b3) (.cons rS .nil) ⟨rfl, ⟨rfl, rfl, rfl, (.cons rS (.cons rS (.cons rS .nil)))⟩, rfl, bP, rfl, bP, rfl, bP, trivial⟩ rF) <|
    .p (does_b true (decide_eq_true ap)) <| .a 2 24 <| .nil _ _) ?_
  refine aw_rt ?_
  exact en_ret [.bool true] (by kernel_rfl)
theorem areaNorms_2 (xs : List Int) (R1 R2 R3 : List (Int × Int)) (zR1 : 1 ≤ R1.length ∧ R1.length ≤ 200) (fR1 : Sp.Few 1000 R1) (zR2 : 1 ≤ R2.length ∧ R2.length ≤ 200) (fR2 : Sp.Few 1000 R2) (zR3 : 1 ≤ R3.length ∧ R3.length ≤ 200) (fR3 : Sp.Few 1000 R3) (cR1 : Sp.chkF R1 = 0) (cR2 : Sp.chkF R2 = 0) (cR3 : Sp.chkF R3 = 0) (F21 : Sp.Fit R2 R1 1 (-1)) (F31 : Sp.Fit R3 R1 1 (-1)) (F32 : Sp.Fit R3 R2 1 (-1)) (hm : AC Try.prog 9 1 [.slice (some ⟨0, 0, none⟩) xs.length 0] [(0, ⟨(xs.map i64v), 3, false, 1⟩)] (.slice (some ⟨1, 0, none⟩) 3 0) [(1, ⟨[sV 2 R1.length, sV 3 R2.length, sV 4 R3.length], 30, true, 1⟩), (2, (pB R1)), (3, (pB R2)), (4, (pB R3))]) (hn : AC Try.prog 22 4 [.slice (some ⟨0, 0, none⟩) 3 0] [(0, ⟨[sV 1 R1.length, sV 2 R2.length, sV 3 R3.length], 30, true, 1⟩), (1, (pB R1)), (2, (pB R2)), (3, (pB R3))] (.slice (some ⟨4, 0, none⟩) 3 0) [(0, ⟨[sV 1 R1.length, sV 2 R2.length, sV 3 R3.length], 30, true, 1⟩), (1, (pB R1)), (2, (pB R2)), (3, (pB R3)), (4, ⟨[sV 5 R1.length, sV 6 R2.length, sV 7 R3.length], 30, true, 1⟩), (5, (pB R1)), (6, (pB R2)), (7, (pB R3))]) (hq : AC Try.prog 22 4 [.slice (some ⟨0, 0, none⟩) 3 0] [(0, ⟨[sV 1 R3.length, sV 2 R2.length, sV 3 R1.length], 30, true, 1⟩), (1, (pB (R3.reverse))), (2, (pB (R2.reverse))), (3, (pB (R1.reverse)))] (.slice (some ⟨4, 0, none⟩) 3 0) [(0, ⟨[sV 1 R3.length, sV 2 R2.length, sV 3 R1.length], 30, true, 1⟩), (1, (pB (R3.reverse))), (2, (pB (R2.reverse))), (3, (pB (R1.reverse))), (4, ⟨[sV 5 R1.length, sV 6 R2.length, sV 7 R3.length], 30, true, 1⟩), (5, (pB R1)), (6, (pB R2)), (7, (pB R3))]) (x px py : Int) (hx : AC Try.prog 10 0 [.int .i64 x] [] (.agg #[.int .i64 px, .int .i64 py]) []) (bpx : -40 ≤ px) (cpx : px ≤ 40) (bpy : -40 ≤ py) (cpy : py ≤ 40) (a1 a2 a3 : Int) (t1 : Sp.twF R1 1 0 = a1) (b1 : -100000 ≤ a1 ∧ a1 ≤ 100000) (t2 : Sp.twF R2 1 0 = a2) (b2 : -100000 ≤ a2 ∧ a2 ≤ 100000) (t3 : Sp.twF R3 1 0 = a3) (b3 : -100000 ≤ a3 ∧ a3 ≤ 100000) (ap : 0 < ((0 + (Sp.mx a1 (0 - a1))) + (0 - (Sp.mx a2 (0 - a2)))) + (Sp.mx a3 (0 - a3))) : AC Try.prog 5 1 [sV 0 xs.length, .int .i64 x] [(0, ⟨(xs.map i64v), 3, false, 1⟩)] (.bool true) [] := by
  have m1 : 0 ≤ Sp.mx a1 (0 - a1) ∧ Sp.mx a1 (0 - a1) ≤ 100000 := (by unfold Sp.mx; split <;> omega); have m2 : 0 ≤ Sp.mx a2 (0 - a2) ∧ Sp.mx a2 (0 - a2) ≤ 100000 := (by unfold Sp.mx; split <;> omega); have m3 : 0 ≤ Sp.mx a3 (0 - a3) ∧ Sp.mx a3 (0 - a3) ≤ 100000 := (by unfold Sp.mx; split <;> omega)
  refine acm_in Try.func5 (fun w0 W pin => ?_)
  refine ax_sq 2 3 (mkSt 1 [(0, sV 0 xs.length), (1, .int .i64 x)] [(0, ⟨(xs.map i64v), 3, false, 1⟩)]) ?_ ?_
  · skip
    refine aw_p1 (
      .a 1 1 <| .nil _ _) ?_
    exact ⟨rfl, weak_b (by kernel_rfl) (by kernel_rfl) (by simp [closedB, valsB, valB, List.all_eq_true, List.mem_flatMap, List.mem_range, List.mem_map, i64v, ptc, flat1]; try (intros; simp [valsB, valB, flat1]); try decide)⟩
  refine ax_sq 6 7 (mkSt 1 [(0, sV 0 xs.length), (1, .int .i64 x)] [(0, ⟨(xs.map i64v), 3, false, 1⟩)]) ?_ ?_
  · skip
    refine aw_p 13 (
      .p (does_c (areaBegun_ok)) <| .a 1 1 <| .nil _ _) ?_
    refine aw_fl 27 ?_
    refine aw_sk ?_
    exact ⟨rfl, weak_b (by kernel_rfl) (by kernel_rfl) (by simp [closedB, valsB, valB, List.all_eq_true, List.mem_flatMap, List.mem_range, List.mem_map, i64v, ptc, flat1]; try (intros; simp [valsB, valB, flat1]); try decide)⟩
  refine ax_sq 14 15 (mkSt 1 [(5, sV 1 3), (6, .pointer (some ⟨5, 0, none⟩))] [(0, ⟨(xs.map i64v), 3, false, 1⟩), (1, ⟨[sV 2 R1.length, sV 3 R2.length, sV 4 R3.length], 30, true, 1⟩), (2, (pB R1)), (3, (pB R2)), (4, (pB R3)), (5, ⟨[.int .i64 px, .int .i64 py], 28, true, 2⟩)]) ?_ ?_
  · skip
    refine aw_p1 (
      .a 1 1 <|
      .p (cF #[.tmp 14] #[22] [sV 0 xs.length] 4 [0, 1, 2, 3, 4] [(0, ⟨(xs.map i64v), 3, false, 1⟩)] [(1, ⟨[sV 2 R1.length, sV 3 R2.length, sV 4 R3.length], 30, true, 1⟩), (2, (pB R1)), (3, (pB R2)), (4, (pB R3))] (sV 1 3) (hm) (.cons rS .nil) ⟨rfl, ⟨rfl, rfl, rfl, (.flats (flats_map (fun _ => rfl) _))⟩, trivial⟩ ⟨rfl, ⟨rfl, rfl, rfl, (.cons rS (.cons rS (.cons rS .nil)))⟩, rfl, bP, rfl, bP, rfl, bP, trivial⟩ rS) <|
      .a 1 5 <| .p (does_c (hx)) <| .a 3 5 <| .nil _ _) ?_
    exact ⟨rfl, weak_b (by kernel_rfl) (by kernel_rfl) (by simp [closedB, valsB, valB, List.all_eq_true, List.mem_flatMap, List.mem_range, List.mem_map, i64v, ptc, flat1]; try (intros; simp [valsB, valB, flat1]); try decide)⟩
  refine ax_sq 30 31 (mkSt 1 [(5, sV 1 3), (6, .pointer (some ⟨5, 0, none⟩)), (7, .pointer (some ⟨6, 0, none⟩))] [(0, ⟨(xs.map i64v), 3, false, 1⟩), (1, ⟨[sV 2 R1.length, sV 3 R2.length, sV 4 R3.length], 30, true, 1⟩), (2, (pB R1)), (3, (pB R2)), (4, (pB R3)), (5, ⟨[.int .i64 px, .int .i64 py], 28, true, 2⟩), (6, ⟨[.slice none 0 0], 25, true, 1⟩)]) ?_ ?_
  · skip
    refine aw_p1 (
      .a 1 6 <| .nil _ _) ?_
    exact ⟨rfl, weak_b (by kernel_rfl) (by kernel_rfl) (by simp [closedB, valsB, valB, List.all_eq_true, List.mem_flatMap, List.mem_range, List.mem_map, i64v, ptc, flat1]; try (intros; simp [valsB, valB, flat1]); try decide)⟩
  refine ax_loop 124 63 0 (.rangeFunc (.tmp 19) #[20, 21] (.region 6 #[{ dst := some 9, op := .assign (.tmp 21), type := 30, pos := "plane.go:196", after := #[], guard := none }] false) (sb (rndOf Try.f5 125) 1)) (mkSt 1 [(5, sV 1 3), (6, .pointer (some ⟨5, 0, none⟩)), (7, .pointer (some ⟨6, 0, none⟩)), (19, .func (.func 73) #[] #[.pointer (some ⟨7, 0, none⟩)])] [(0, ⟨(xs.map i64v), 3, false, 1⟩), (1, ⟨[sV 2 R1.length, sV 3 R2.length, sV 4 R3.length], 30, true, 1⟩), (2, (pB R1)), (3, (pB R2)), (4, (pB R3)), (5, ⟨[.int .i64 px, .int .i64 py], 28, true, 2⟩), (6, ⟨[.slice none 0 0], 25, true, 1⟩), (7, ⟨[sV 1 3], 25, true, 1⟩)]) ?_ (fun ρ a w hr => ?_)
  · skip
    refine aw_p1 (
      .a 1 7 <|
      .p (cF #[.tmp 18] #[25] [sV 1 3] 1 [1, 2, 3, 4, 7] [(1, ⟨[sV 2 R1.length, sV 3 R2.length, sV 4 R3.length], 30, true, 1⟩), (2, (pB R1)), (3, (pB R2)), (4, (pB R3))] [(1, ⟨[sV 2 R1.length, sV 3 R2.length, sV 4 R3.length], 30, true, 1⟩), (2, (pB R1)), (3, (pB R2)), (4, (pB R3)), (7, ⟨[sV 1 3], 25, true, 1⟩)] (.func (.func 73) #[] #[.pointer (some ⟨7, 0, none⟩)]) (backward_3 R1 R2 R3) (.cons rS .nil) ⟨rfl, ⟨rfl, rfl, rfl, (.cons rS (.cons rS (.cons rS .nil)))⟩, rfl, bP, rfl, bP, rfl, bP, trivial⟩ ⟨rfl, ⟨rfl, rfl, rfl, (.cons rS (.cons rS (.cons rS .nil)))⟩, rfl, bP, rfl, bP, rfl, bP, rfl, ⟨rfl, rfl, rfl, (.cons rS .nil)⟩, trivial⟩ (.funcL (.flats (by kernel_rfl)) (.cons (.ptr _ _ (by decide)) .nil))) <| .nil _ _) ?_
    exact ⟨rfl, weak_b (by kernel_rfl) (by kernel_rfl) (by simp [closedB, valsB, valB, List.all_eq_true, List.mem_flatMap, List.mem_range, List.mem_map, i64v, ptc, flat1]; try (intros; simp [valsB, valB, flat1]); try decide)⟩
  · exact wp_range' (C := ⟨w0, W, Try.f5.ntmps, 1, pin, []⟩) [(5, sV 1 3), (6, .pointer (some ⟨5, 0, none⟩)), (7, .pointer (some ⟨6, 0, none⟩)), (19, .func (.func 73) #[] #[.pointer (some ⟨7, 0, none⟩)])] [(0, ⟨(xs.map i64v), 3, false, 1⟩), (1, ⟨[sV 2 R1.length, sV 3 R2.length, sV 4 R3.length], 30, true, 1⟩), (2, (pB R1)), (3, (pB R2)), (4, (pB R3)), (5, ⟨[.int .i64 px, .int .i64 py], 28, true, 2⟩), (6, ⟨[.slice none 0 0], 25, true, 1⟩), (7, ⟨[sV 1 3], 25, true, 1⟩)] [(2, (pB R1)), (3, (pB R2)), (4, (pB R3)), (6, ⟨[.slice none 0 0], 25, true, 1⟩)] [(2, (pB R1)), (3, (pB R2)), (4, (pB R3)), (6, ⟨[sV 8 3], 25, true, 1⟩), (8, ⟨[sV 9 R3.length, sV 10 R2.length, sV 11 R1.length], 30, true, 1⟩), (9, (pB (R3.reverse))), (10, (pB (R2.reverse))), (11, (pB (R1.reverse)))] [(0, ⟨(xs.map i64v), 3, false, 1⟩), (1, ⟨[sV 2 R1.length, sV 3 R2.length, sV 4 R3.length], 30, true, 1⟩), (5, ⟨[.int .i64 px, .int .i64 py], 28, true, 2⟩), (7, ⟨[sV 1 3], 25, true, 1⟩)] [(7, .pointer (some ⟨6, 0, none⟩))] 8 19 20 21 9 73 3 (anL3 R1 R2 R3) (anU3 R1 R2 R3) 7 1 0 0 ⟨[sV 1 3], 25, true, 1⟩ ⟨[sV 2 R1.length, sV 3 R2.length, sV 4 R3.length], 30, true, 1⟩ rfl hr (back_n3) back_enters (rounds_3 R1 R2 R3 zR1 zR2 zR3) (fun D ρ' w1 h1 h2 h3 h4 => wp_mono (areaNorms_rest_2 xs R1 R2 R3 zR1 fR1 zR2 fR2 zR3 fR3 cR1 cR2 cR3 F21 F31 F32 hm hn hq x px py hx bpx cpx bpy cpy a1 a2 a3 t1 b1 t2 b2 t3 b3 ap w1 _ pin [mark D] ρ' _ w1 h4) (after_of h1 h2 h3)) rfl rfl rfl rfl rfl rfl (fun j => match j with | ⟨0, _⟩ => rfl | ⟨1, _⟩ => rfl | ⟨2, _⟩ => rfl) (hcl := (by simp [closedB, valsB, valB, List.all_eq_true, List.mem_flatMap, List.mem_range, List.mem_map, i64v, ptc, flat1]; try (intros; simp [valsB, valB, flat1]); try decide))
end Go.Proofs.Ytndkhgfecnbmnaa.Am

namespace Go.Proofs.Ytndkhgfecnbmnaa.Am
open Go Go.Proofs
set_option maxRecDepth 100000
set_option maxHeartbeats 4000000
set_option linter.unusedVariables false
set_option linter.unusedSimpArgs false
theorem acheck_s2 (R1 R2 : List (Int × Int)) (zR1 : 1 ≤ R1.length ∧ R1.length ≤ 200) (fR1 : Sp.Few 1000 R1) (zR2 : 1 ≤ R2.length ∧ R2.length ≤ 200) (fR2 : Sp.Few 1000 R2) (cR1 : Sp.chkF R1 = 0) (cR2 : Sp.chkF R2 = 0) (F21 : Sp.Fit R2 R1 (-1) (-1)) :
    AC Try.prog 18 3 ([sV 0 2]) [(0, ⟨[sV 1 R1.length, sV 2 R2.length], 30, true, 1⟩), (1, (pB R1)), (2, (pB R2))] (.int .i64 0) [(0, ⟨[sV 1 R1.length, sV 2 R2.length], 30, true, 1⟩), (1, (pB R1)), (2, (pB R2))] := by
  refine ac_in Try.func18 (fun w0 W pin => ?_)
  refine aw_p 3 (
    .a 1 3 <| .nil _ _) ?_
  refine aw_sq 6 7 ?_
  refine aw_p 13 (
    .a 3 3 <| .nil _ _) ?_
  refine aw_fl 27 ?_
  refine aw_sk ?_
  refine then_normal ?_
  refine aw_sq 14 15 ?_
  refine aw_p 29 (
    .a 3 3 <| .nil _ _) ?_
  refine aw_bl 0 59 ?_
  refine aw_lp 119 ?_
  refine al_round ?_
  refine aw_p 239 (
    .a 1 3 <| .nil _ _) ?_
  refine aw_sq 478 479 ?_
  refine aw_tr 956 ?_
  refine aw_sk ?_
  refine then_normal ?_
  refine aw_sq 958 959 ?_
  refine aw_bl 1 1917 ?_
  refine aw_p 3835 (
    .a 3 3 <| .nil _ _) ?_
  refine aw_p 7671 (
    .a 1 3 <| .p (cS (m := 1) (args0 := [sV 0 R1.length]) (pre0 := [(0, (pB R1))]) (v0 := .int .i64 0) #[.tmp 19] #[30] [sV 1 R1.length] [1] [(1, (pB R1))] (.int .i64 0) ((by have h := chkn_own R1 R1.length rfl (by omega); rw [cR1] at h; exact h)) (.cons rS .nil) ⟨rfl, bP, trivial⟩ rF) <| .a 1 3 <| .nil _ _) ?_
  refine aw_p 15343 (
    .a 2 3 <| .nil _ _) ?_
  refine aw_fl 30687 ?_
  refine aw_sk ?_
  refine block_normal ?_
  refine then_normal ?_
  refine aw_p1 (
    .a 2 3 <| .nil _ _) ?_
  refine then_normal ?_
  refine al_round ?_
  refine aw_p 239 (
    .a 1 3 <| .nil _ _) ?_
  refine aw_sq 478 479 ?_
  refine aw_tr 956 ?_
  refine aw_sk ?_
  refine then_normal ?_
  refine aw_sq 958 959 ?_
  refine aw_bl 1 1917 ?_
  refine aw_p 3835 (
    .a 3 3 <| .nil _ _) ?_
  refine aw_p 7671 (
    .a 1 3 <| .p (cS (m := 1) (args0 := [sV 0 R2.length]) (pre0 := [(0, (pB R2))]) (v0 := .int .i64 0) #[.tmp 19] #[30] [sV 2 R2.length] [2] [(2, (pB R2))] (.int .i64 0) ((by have h := chkn_own R2 R2.length rfl (by omega); rw [cR2] at h; exact h)) (.cons rS .nil) ⟨rfl, bP, trivial⟩ rF) <| .a 1 3 <| .nil _ _) ?_
  refine aw_p 15343 (
    .a 2 3 <| .nil _ _) ?_
  refine aw_fl 30687 ?_
  refine aw_sk ?_
  refine block_normal ?_
  refine then_normal ?_
  refine aw_p1 (
    .a 2 3 <| .nil _ _) ?_
  refine then_normal ?_
  refine al_round ?_
  refine aw_p 239 (
    .a 1 3 <| .nil _ _) ?_
  refine aw_sq 478 479 ?_
  refine aw_fl 957 ?_
  refine aw_ex 0 ?_
  refine then_exit ?_
  refine then_exit ?_
  refine block_exit ?_
  refine then_normal ?_
  refine aw_sq 30 31 ?_
  refine aw_p 61 (
    .a 3 3 <| .nil _ _) ?_
  refine aw_bl 2 123 ?_
  refine aw_lp 247 ?_
  refine al_round ?_
  refine aw_p 495 (
    .a 1 3 <| .nil _ _) ?_
  refine aw_sq 990 991 ?_
  refine aw_tr 1980 ?_
  refine aw_sk ?_
  refine then_normal ?_
  refine aw_sq 1982 1983 ?_
  refine aw_bl 3 3965 ?_
  refine aw_p 7931 (
    .a 5 3 <| .nil _ _) ?_
  refine aw_p 15863 (
    .a 2 3 <|
    .p (does_val (v' := sV 0 0) (does_slice (t := 25) (x := .tmp 32) (lo := none) (hi := some (.tmp 33)) (k := 0) (off := 0) (n := 2) (c := 0) (z := 1) (l := 0) (h := 0) (m := 0) (b := ⟨[sV 1 R1.length, sV 2 R2.length], 30, true, 1⟩) (by kernel_rfl) (by kernel_rfl) (by kernel_rfl) (by kernel_rfl) (by kernel_rfl) (by kernel_rfl) (by kernel_rfl) (by kernel_rfl) (by decide) (by decide) (by decide) (by decide)) (by kernel_rfl)) <|
    .a 2 3 <| .nil _ _) ?_
  refine aw_bl 4 31727 ?_
  refine aw_lp 63455 ?_
  refine al_round ?_
  refine aw_p 126911 (
    .a 1 3 <| .nil _ _) ?_
  refine aw_sq 253822 253823 ?_
  refine aw_fl 507645 ?_
  refine aw_ex 4 ?_
  refine then_exit ?_
  refine then_exit ?_
  refine block_exit ?_
  refine block_normal ?_
  refine then_normal ?_
  refine aw_p1 (
    .a 2 3 <| .nil _ _) ?_
  refine then_normal ?_
  refine al_round ?_
  refine aw_p 495 (
    .a 1 3 <| .nil _ _) ?_
  refine aw_sq 990 991 ?_
  refine aw_tr 1980 ?_
  refine aw_sk ?_
  refine then_normal ?_
  refine aw_sq 1982 1983 ?_
  refine aw_bl 3 3965 ?_
  refine aw_p 7931 (
    .a 5 3 <| .nil _ _) ?_
  refine aw_p 15863 (
    .a 2 3 <|
    .p (does_val (v' := sV 0 1) (does_slice (t := 25) (x := .tmp 32) (lo := none) (hi := some (.tmp 33)) (k := 0) (off := 0) (n := 2) (c := 0) (z := 1) (l := 0) (h := 1) (m := 1) (b := ⟨[sV 1 R1.length, sV 2 R2.length], 30, true, 1⟩) (by kernel_rfl) (by kernel_rfl) (by kernel_rfl) (by kernel_rfl) (by kernel_rfl) (by kernel_rfl) (by kernel_rfl) (by kernel_rfl) (by decide) (by decide) (by decide) (by decide)) (by kernel_rfl)) <|
    .a 2 3 <| .nil _ _) ?_
  refine aw_bl 4 31727 ?_
  refine aw_lp 63455 ?_
  refine al_round ?_
  refine aw_p 126911 (
    .a 1 3 <| .nil _ _) ?_
  refine aw_sq 253822 253823 ?_
  refine aw_tr 507644 ?_
  refine aw_sk ?_
  refine then_normal ?_
  refine aw_sq 507646 507647 ?_
  refine aw_bl 5 1015293 ?_
  refine aw_p 2030587 (
    .a 3 3 <| .nil _ _) ?_
  refine aw_p 4061175 (
    .a 2 3 <| .p (cS #[.tmp 40, .tmp 41] #[30, 30] [sV 2 R2.length, sV 1 R1.length] [2, 1] [(2, (pB R2)), (1, (pB R1))] (.bool true) (fits_ok R2 R1 (-1) (-1) zR2 fR2 zR1 fR1 F21) (.cons rS (.cons rS .nil)) ⟨rfl, bP, rfl, bP, trivial⟩ rF) <| .a 1 3 <| .nil _ _) ?_
  refine aw_fl 8122351 ?_
  refine aw_sk ?_
  refine block_normal ?_
  refine then_normal ?_
  refine aw_p1 (
    .a 2 3 <| .nil _ _) ?_
  refine then_normal ?_
  refine al_round ?_
  refine aw_p 126911 (
    .a 1 3 <| .nil _ _) ?_
  refine aw_sq 253822 253823 ?_
  refine aw_fl 507645 ?_
  refine aw_ex 4 ?_
  refine then_exit ?_
  refine then_exit ?_
  refine block_exit ?_
  refine block_normal ?_
  refine then_normal ?_
  refine aw_p1 (
    .a 2 3 <| .nil _ _) ?_
  refine then_normal ?_
  refine al_round ?_
  refine aw_p 495 (
    .a 1 3 <| .nil _ _) ?_
  refine aw_sq 990 991 ?_
  refine aw_fl 1981 ?_
  refine aw_ex 2 ?_
  refine then_exit ?_
  refine then_exit ?_
  refine block_exit ?_
  refine then_normal ?_
  refine aw_p 63 (
    .a 1 3 <| .nil _ _) ?_
  refine aw_rt ?_
  exact en_ret [.int .i64 0] (by kernel_rfl)
theorem adepth_s2 (R1 R2 : List (Int × Int)) (zR1 : 1 ≤ R1.length ∧ R1.length ≤ 200) (fR1 : Sp.Few 1000 R1) (zR2 : 1 ≤ R2.length ∧ R2.length ≤ 200) (fR2 : Sp.Few 1000 R2) (cR1 : Sp.chkF R1 = 0) (cR2 : Sp.chkF R2 = 0) (F21 : Sp.Fit R2 R1 (-1) (-1)) :
    AC Try.prog 13 3 ([sV 0 2]) [(0, ⟨[sV 1 R1.length, sV 2 R2.length], 30, true, 1⟩), (1, (pB R1)), (2, (pB R2))] (sV 3 2) [(0, ⟨[sV 1 R1.length, sV 2 R2.length], 30, true, 1⟩), (1, (pB R1)), (2, (pB R2)), (3, ⟨[.int .i64 0, .int .i64 0], 3, true, 1⟩)] := by
  refine ac_in Try.func13 (fun w0 W pin => ?_)
  refine aw_p 3 (
    .a 1 3 <| .nil _ _) ?_
  refine aw_sq 6 7 ?_
  refine aw_p 13 (
    .a 1 3 <| .p (cS #[.tmp 8] #[25] [sV 0 2] [0, 1, 2] [(0, ⟨[sV 1 R1.length, sV 2 R2.length], 30, true, 1⟩), (1, (pB R1)), (2, (pB R2))] (.int .i64 0) (acheck_s2 R1 R2 zR1 fR1 zR2 fR2 cR1 cR2 F21) (.cons rS .nil) ⟨rfl, ⟨rfl, rfl, rfl, (.cons rS (.cons rS .nil))⟩, rfl, bP, rfl, bP, trivial⟩ rF) <|
    .a 1 3 <| .nil _ _) ?_
  refine aw_fl 27 ?_
  refine aw_sk ?_
  refine then_normal ?_
  refine aw_p 15 (
    .a 2 3 <| .p (does_mk (kl := .i64) (kc := .i64) (n' := 2) (c' := 2) 3 3 1 8 2 2 (.int .i64 0) [.int .i64 0, .int .i64 0] (by kernel_rfl) (by kernel_rfl) (by kernel_rfl) (by kernel_rfl) (by decide) (by decide) (by decide) (by decide) (by decide)) <| .a 1 4 <| .nil _ _) ?_
  refine aw_sq 30 31 ?_
  refine aw_p 61 (
    .a 3 4 <| .nil _ _) ?_
  refine aw_bl 0 123 ?_
  refine aw_lp 247 ?_
  refine al_round ?_
  refine aw_p 495 (
    .a 1 4 <| .nil _ _) ?_
  refine aw_sq 990 991 ?_
  refine aw_tr 1980 ?_
  refine aw_sk ?_
  refine then_normal ?_
  refine aw_sq 1982 1983 ?_
  refine aw_bl 1 3965 ?_
  refine aw_p 7931 (
    .a 5 4 <| .nil _ _) ?_
  refine aw_p 15863 (
    .a 3 4 <| .nil _ _) ?_
  refine aw_bl 2 31727 ?_
  refine aw_lp 63455 ?_
  refine al_round ?_
  refine aw_p 126911 (
    .a 1 4 <| .nil _ _) ?_
  refine aw_sq 253822 253823 ?_
  refine aw_tr 507644 ?_
  refine aw_sk ?_
  refine then_normal ?_
  refine aw_sq 507646 507647 ?_
  refine aw_bl 3 1015293 ?_
  refine aw_p 2030587 (
    .a 5 4 <| .nil _ _) ?_
  refine aw_p 4061175 (
    .a 9 4 <| .nil _ _) ?_
  refine aw_fl 8122351 ?_
  refine aw_sk ?_
  refine block_normal ?_
  refine then_normal ?_
  refine aw_p1 (
    .a 2 4 <| .nil _ _) ?_
  refine then_normal ?_
  refine al_round ?_
  refine aw_p 126911 (
    .a 1 4 <| .nil _ _) ?_
  refine aw_sq 253822 253823 ?_
  refine aw_tr 507644 ?_
  refine aw_sk ?_
  refine then_normal ?_
  refine aw_sq 507646 507647 ?_
  refine aw_bl 3 1015293 ?_
  refine aw_p 2030587 (
    .a 5 4 <| .nil _ _) ?_
  refine aw_p 4061175 (
    .a 6 4 <|
    .p (cS (m := 2) (args0 := [sV 0 R1.length, .int .i64 0, sV 1 R2.length]) (pre0 := [(0, (pB R1)), (1, (pB R2))]) (v0 := .int .i64 (-1)) #[.tmp 32, .const (.int .i64 0), .tmp 33] #[30, 3, 30] [sV 1 R1.length, .int .i64 0, sV 2 R2.length] [1, 2] [(1, (pB R1)), (2, (pB R2))] (.int .i64 (-1)) ((by have h := side_ok R1 R2 zR1 fR1 zR2 fR2 0 (by omega); rw [Sp.side_at F21.2.2 (by omega)] at h; exact h)) (.cons rS (.cons rF (.cons rS .nil))) ⟨rfl, bP, rfl, bP, trivial⟩ rF) <|
    .a 2 4 <| .nil _ _) ?_
  refine aw_fl 8122351 ?_
  refine aw_sk ?_
  refine block_normal ?_
  refine then_normal ?_
  refine aw_p1 (
    .a 2 4 <| .nil _ _) ?_
  refine then_normal ?_
  refine al_round ?_
  refine aw_p 126911 (
    .a 1 4 <| .nil _ _) ?_
  refine aw_sq 253822 253823 ?_
  refine aw_fl 507645 ?_
  refine aw_ex 2 ?_
  refine then_exit ?_
  refine then_exit ?_
  refine block_exit ?_
  refine block_normal ?_
  refine then_normal ?_
  refine aw_p1 (
    .a 2 4 <| .nil _ _) ?_
  refine then_normal ?_
  refine al_round ?_
  refine aw_p 495 (
    .a 1 4 <| .nil _ _) ?_
  refine aw_sq 990 991 ?_
  refine aw_tr 1980 ?_
  refine aw_sk ?_
  refine then_normal ?_
  refine aw_sq 1982 1983 ?_
  refine aw_bl 1 3965 ?_
  refine aw_p 7931 (
    .a 5 4 <| .nil _ _) ?_
  refine aw_p 15863 (
    .a 3 4 <| .nil _ _) ?_
  refine aw_bl 2 31727 ?_
  refine aw_lp 63455 ?_
  refine al_round ?_
  refine aw_p 126911 (
    .a 1 4 <| .nil _ _) ?_
  refine aw_sq 253822 253823 ?_
  refine aw_tr 507644 ?_
  refine aw_sk ?_
  refine then_normal ?_
  refine aw_sq 507646 507647 ?_
  refine aw_bl 3 1015293 ?_
  refine aw_p 2030587 (
    .a 5 4 <| .nil _ _) ?_
  refine aw_p 4061175 (
    .a 6 4 <|
    .p (cS (m := 2) (args0 := [sV 0 R2.length, .int .i64 0, sV 1 R1.length]) (pre0 := [(0, (pB R2)), (1, (pB R1))]) (v0 := .int .i64 (-1)) #[.tmp 32, .const (.int .i64 0), .tmp 33] #[30, 3, 30] [sV 2 R2.length, .int .i64 0, sV 1 R1.length] [2, 1] [(2, (pB R2)), (1, (pB R1))] (.int .i64 (-1)) ((by have h := side_ok R2 R1 zR2 fR2 zR1 fR1 0 (by omega); rw [Sp.side_at F21.2.1 (by omega)] at h; exact h)) (.cons rS (.cons rF (.cons rS .nil))) ⟨rfl, bP, rfl, bP, trivial⟩ rF) <|
    .a 2 4 <| .nil _ _) ?_
  refine aw_fl 8122351 ?_
  refine aw_sk ?_
  refine block_normal ?_
  refine then_normal ?_
  refine aw_p1 (
    .a 2 4 <| .nil _ _) ?_
  refine then_normal ?_
  refine al_round ?_
  refine aw_p 126911 (
    .a 1 4 <| .nil _ _) ?_
  refine aw_sq 253822 253823 ?_
  refine aw_tr 507644 ?_
  refine aw_sk ?_
  refine then_normal ?_
  refine aw_sq 507646 507647 ?_
  refine aw_bl 3 1015293 ?_
  refine aw_p 2030587 (
    .a 5 4 <| .nil _ _) ?_
  refine aw_p 4061175 (
    .a 9 4 <| .nil _ _) ?_
  refine aw_fl 8122351 ?_
  refine aw_sk ?_
  refine block_normal ?_
  refine then_normal ?_
  refine aw_p1 (
    .a 2 4 <| .nil _ _) ?_
  refine then_normal ?_
  refine al_round ?_
  refine aw_p 126911 (
    .a 1 4 <| .nil _ _) ?_
  refine aw_sq 253822 253823 ?_
  refine aw_fl 507645 ?_
  refine aw_ex 2 ?_
  refine then_exit ?_
  refine then_exit ?_
  refine block_exit ?_
  refine block_normal ?_
  refine then_normal ?_
  refine aw_p1 (
    .a 2 4 <| .nil _ _) ?_
  refine then_normal ?_
  refine al_round ?_
  refine aw_p 495 (
    .a 1 4 <| .nil _ _) ?_
  refine aw_sq 990 991 ?_
  refine aw_fl 1981 ?_
  refine aw_ex 0 ?_
  refine then_exit ?_
  refine then_exit ?_
  refine block_exit ?_
  refine then_normal ?_
  refine aw_p 63 (
    .a 2 4 <| .nil _ _) ?_
  refine aw_rt ?_
  exact en_ret [sV 3 2] (by kernel_rfl)
theorem atwice_s2 (R1 R2 : List (Int × Int)) (zR1 : 1 ≤ R1.length ∧ R1.length ≤ 200) (fR1 : Sp.Few 1000 R1) (zR2 : 1 ≤ R2.length ∧ R2.length ≤ 200) (fR2 : Sp.Few 1000 R2) (cR1 : Sp.chkF R1 = 0) (cR2 : Sp.chkF R2 = 0) (F21 : Sp.Fit R2 R1 (-1) (-1)) (a1 a2 : Int) (t1 : Sp.twF R1 1 0 = a1) (b1 : -100000 ≤ a1 ∧ a1 ≤ 100000) (t2 : Sp.twF R2 1 0 = a2) (b2 : -100000 ≤ a2 ∧ a2 ≤ 100000) :
    AC Try.prog 21 3 ([sV 0 2]) [(0, ⟨[sV 1 R1.length, sV 2 R2.length], 30, true, 1⟩), (1, (pB R1)), (2, (pB R2))] (.int .i64 ((0 + (Sp.mx a1 (0 - a1))) + (Sp.mx a2 (0 - a2)))) [(0, ⟨[sV 1 R1.length, sV 2 R2.length], 30, true, 1⟩), (1, (pB R1)), (2, (pB R2))] := by
  have m1 : 0 ≤ Sp.mx a1 (0 - a1) ∧ Sp.mx a1 (0 - a1) ≤ 100000 := (by unfold Sp.mx; split <;> omega); have m2 : 0 ≤ Sp.mx a2 (0 - a2) ∧ Sp.mx a2 (0 - a2) ≤ 100000 := (by unfold Sp.mx; split <;> omega)
  refine ac_in Try.func21 (fun w0 W pin => ?_)
  refine aw_p 3 (
    .a 1 3 <| .nil _ _) ?_
  refine aw_p 7 (
    .a 1 3 <| .nil _ _) ?_
  refine aw_sq 14 15 ?_
  refine aw_p 29 (
    .a 1 3 <|
    .p (cF #[.tmp 7] #[25] [sV 0 2] 1 [0, 1, 2, 3] [(0, ⟨[sV 1 R1.length, sV 2 R2.length], 30, true, 1⟩), (1, (pB R1)), (2, (pB R2))] [(0, ⟨[sV 1 R1.length, sV 2 R2.length], 30, true, 1⟩), (1, (pB R1)), (2, (pB R2)), (3, ⟨[.int .i64 0, .int .i64 0], 3, true, 1⟩)] (sV 3 2) (adepth_s2 R1 R2 zR1 fR1 zR2 fR2 cR1 cR2 F21) (.cons rS .nil) ⟨rfl, ⟨rfl, rfl, rfl, (.cons rS (.cons rS .nil))⟩, rfl, bP, rfl, bP, trivial⟩ ⟨rfl, ⟨rfl, rfl, rfl, (.cons rS (.cons rS .nil))⟩, rfl, bP, rfl, bP, rfl, ⟨rfl, rfl, rfl, (.flats (by kernel_rfl))⟩, trivial⟩ rS) <|
    .a 2 4 <| .nil _ _) ?_
  refine aw_bl 0 59 ?_
  refine aw_lp 119 ?_
  refine al_round ?_
  refine aw_p 239 (
    .a 1 4 <| .nil _ _) ?_
  refine aw_sq 478 479 ?_
  refine aw_tr 956 ?_
  refine aw_sk ?_
  refine then_normal ?_
  refine aw_sq 958 959 ?_
  refine aw_bl 1 1917 ?_
  refine aw_p 3835 (
    .a 5 4 <| .nil _ _) ?_
  refine aw_p 7671 (
    .a 4 4 <| .p (cS (m := 1) (args0 := [sV 0 R1.length]) (pre0 := [(0, (pB R1))]) (v0 := .int .i64 a1) #[.tmp 18] #[30] [sV 1 R1.length] [1] [(1, (pB R1))] (.int .i64 a1) ((by have h := twicen_own R1 R1.length rfl (by omega); rw [t1] at h; exact h)) (.cons rS .nil) ⟨rfl, bP, trivial⟩ rF) <| .a 1 4 <| .nil _ _) ?_
  refine aw_p 15343 (
    .a 2 4 <| .p (does_i (0 - a1) (wrap_i64 (by omega) (by omega)) .i64) <| .a 2 4 <| .nil _ _) ?_
  refine aw_sq 30686 30687 ?_
  refine aw_p 61373 (
    .a 3 4 <| .nil _ _) ?_
  refine aw_fl 122747 ?_
  refine aw_sk ?_
  refine then_normal ?_
  refine aw_p1 (
    .a 2 4 <| .p (does_i (0 + (Sp.mx a1 (0 - a1))) (wrap_i64 (by omega) (by omega)) .i64) <| .a 1 4 <| .nil _ _) ?_
  refine block_normal ?_
  refine then_normal ?_
  refine aw_p1 (
    .a 2 4 <| .nil _ _) ?_
  refine then_normal ?_
  refine al_round ?_
  refine aw_p 239 (
    .a 1 4 <| .nil _ _) ?_
  refine aw_sq 478 479 ?_
  refine aw_tr 956 ?_
  refine aw_sk ?_
  refine then_normal ?_
  refine aw_sq 958 959 ?_
  refine aw_bl 1 1917 ?_
  refine aw_p 3835 (
    .a 5 4 <| .nil _ _) ?_
  refine aw_p 7671 (
    .a 4 4 <| .p (cS (m := 1) (args0 := [sV 0 R2.length]) (pre0 := [(0, (pB R2))]) (v0 := .int .i64 a2) #[.tmp 18] #[30] [sV 2 R2.length] [2] [(2, (pB R2))] (.int .i64 a2) ((by have h := twicen_own R2 R2.length rfl (by omega); rw [t2] at h; exact h)) (.cons rS .nil) ⟨rfl, bP, trivial⟩ rF) <| .a 1 4 <| .nil _ _) ?_
  refine aw_p 15343 (
    .a 2 4 <| .p (does_i (0 - a2) (wrap_i64 (by omega) (by omega)) .i64) <| .a 2 4 <| .nil _ _) ?_
  refine aw_sq 30686 30687 ?_
  refine aw_p 61373 (
    .a 3 4 <| .nil _ _) ?_
  refine aw_fl 122747 ?_
  refine aw_sk ?_
  refine then_normal ?_
  refine aw_p1 (
    .a 2 4 <| .p (does_i ((0 + (Sp.mx a1 (0 - a1))) + (Sp.mx a2 (0 - a2))) (wrap_i64 (by omega) (by omega)) .i64) <| .a 1 4 <| .nil _ _) ?_
  refine block_normal ?_
  refine then_normal ?_
  refine aw_p1 (
    .a 2 4 <| .nil _ _) ?_
  refine then_normal ?_
  refine al_round ?_
  refine aw_p 239 (
    .a 1 4 <| .nil _ _) ?_
  refine aw_sq 478 479 ?_
  refine aw_fl 957 ?_
  refine aw_ex 0 ?_
  refine then_exit ?_
  refine then_exit ?_
  refine block_exit ?_
  refine then_normal ?_
  refine aw_p 31 (
    .a 2 4 <| .nil _ _) ?_
  refine aw_rt ?_
  exact en_ret [.int .i64 ((0 + (Sp.mx a1 (0 - a1))) + (Sp.mx a2 (0 - a2)))] (by kernel_rfl)
end Go.Proofs.Ytndkhgfecnbmnaa.Am

namespace Go.Proofs.Ytndkhgfecnbmnaa.Am
open Go Go.Proofs
set_option maxRecDepth 100000
set_option maxHeartbeats 4000000
set_option linter.unusedVariables false
set_option linter.unusedSimpArgs false
theorem areaNorms_rest_3 (xs : List Int) (R1 R2 : List (Int × Int)) (zR1 : 1 ≤ R1.length ∧ R1.length ≤ 200) (fR1 : Sp.Few 1000 R1) (zR2 : 1 ≤ R2.length ∧ R2.length ≤ 200) (fR2 : Sp.Few 1000 R2) (cR1 : Sp.chkF R1 = 0) (cR2 : Sp.chkF R2 = 0) (F21 : Sp.Fit R2 R1 (-1) (-1)) (hm : AC Try.prog 9 1 [.slice (some ⟨0, 0, none⟩) xs.length 0] [(0, ⟨(xs.map i64v), 3, false, 1⟩)] (.slice (some ⟨1, 0, none⟩) 2 0) [(1, ⟨[sV 2 R1.length, sV 3 R2.length], 30, true, 1⟩), (2, (pB R1)), (3, (pB R2))]) (hn : AC Try.prog 22 3 [.slice (some ⟨0, 0, none⟩) 2 0] [(0, ⟨[sV 1 R1.length, sV 2 R2.length], 30, true, 1⟩), (1, (pB R1)), (2, (pB R2))] (.slice (some ⟨3, 0, none⟩) 2 0) [(0, ⟨[sV 1 R1.length, sV 2 R2.length], 30, true, 1⟩), (1, (pB R1)), (2, (pB R2)), (3, ⟨[sV 4 R1.length, sV 5 R2.length], 30, true, 1⟩), (4, (pB R1)), (5, (pB R2))]) (hq : AC Try.prog 22 3 [.slice (some ⟨0, 0, none⟩) 2 0] [(0, ⟨[sV 1 R2.length, sV 2 R1.length], 30, true, 1⟩), (1, (pB (R2.reverse))), (2, (pB (R1.reverse)))] (.slice (some ⟨3, 0, none⟩) 2 0) [(0, ⟨[sV 1 R2.length, sV 2 R1.length], 30, true, 1⟩), (1, (pB (R2.reverse))), (2, (pB (R1.reverse))), (3, ⟨[sV 4 R1.length, sV 5 R2.length], 30, true, 1⟩), (4, (pB R1)), (5, (pB R2))]) (x px py : Int) (hx : AC Try.prog 10 0 [.int .i64 x] [] (.agg #[.int .i64 px, .int .i64 py]) []) (bpx : -40 ≤ px) (cpx : px ≤ 40) (bpy : -40 ≤ py) (cpy : py ≤ 40) (a1 a2 : Int) (t1 : Sp.twF R1 1 0 = a1) (b1 : -100000 ≤ a1 ∧ a1 ≤ 100000) (t2 : Sp.twF R2 1 0 = a2) (b2 : -100000 ≤ a2 ∧ a2 ≤ 100000) (ap : 0 < (0 + (Sp.mx a1 (0 - a1))) + (Sp.mx a2 (0 - a2))) (w0 : World) (W : Nat → Prop) (pin : Ren) (ds : List Deferred) :
    AW ⟨w0, W, Try.f5.ntmps, 1, pin, ds⟩ Try.prog (sb Try.f5 63) (mkSt 1 [(5, sV 1 2), (6, .pointer (some ⟨4, 0, none⟩)), (7, .pointer (some ⟨5, 0, none⟩)), (19, .func (.func 73) #[] #[.pointer (some ⟨6, 0, none⟩)])] [(2, (pB R1)), (3, (pB R2)), (5, ⟨[sV 7 2], 25, true, 1⟩), (7, ⟨[sV 8 R2.length, sV 9 R1.length], 30, true, 1⟩), (8, (pB (R2.reverse))), (9, (pB (R1.reverse))), (0, ⟨(xs.map i64v), 3, false, 1⟩), (1, ⟨[sV 2 R1.length, sV 3 R2.length], 30, true, 1⟩), (4, ⟨[.int .i64 px, .int .i64 py], 28, true, 2⟩), (6, ⟨[sV 1 2], 25, true, 1⟩)]) (EndQ Try.prog Try.f5 (.bool true) []) := by
  have m1 : 0 ≤ Sp.mx a1 (0 - a1) ∧ Sp.mx a1 (0 - a1) ≤ 100000 := (by unfold Sp.mx; split <;> omega); have m2 : 0 ≤ Sp.mx a2 (0 - a2) ∧ Sp.mx a2 (0 - a2) ≤ 100000 := (by unfold Sp.mx; split <;> omega)
  refine aw_p 127 (
    .a 1 10 <|
    .p (cF #[.tmp 30] #[25] [sV 1 2] 3 [1, 2, 3, 10, 11, 12] [(1, ⟨[sV 2 R1.length, sV 3 R2.length], 30, true, 1⟩), (2, (pB R1)), (3, (pB R2))] [(1, ⟨[sV 2 R1.length, sV 3 R2.length], 30, true, 1⟩), (2, (pB R1)), (3, (pB R2)), (10, ⟨[sV 11 R1.length, sV 12 R2.length], 30, true, 1⟩), (11, (pB R1)), (12, (pB R2))] (sV 10 2) (hn) (.cons rS .nil) ⟨rfl, ⟨rfl, rfl, rfl, (.cons rS (.cons rS .nil))⟩, rfl, bP, rfl, bP, trivial⟩ ⟨rfl, ⟨rfl, rfl, rfl, (.cons rS (.cons rS .nil))⟩, rfl, bP, rfl, bP, rfl, ⟨rfl, rfl, rfl, (.cons rS (.cons rS .nil))⟩, rfl, bP, rfl, bP, trivial⟩ rS) <|
    .a 1 13 <| .nil _ _) ?_
  refine aw_d 255 (
    .a 1 13 <| .p (cS #[.tmp 32] #[25] [sV 1 2] [1, 2, 3] [(1, ⟨[sV 2 R1.length, sV 3 R2.length], 30, true, 1⟩), (2, (pB R1)), (3, (pB R2))] (.int .i64 0) (acheck_s2 R1 R2 zR1 fR1 zR2 fR2 cR1 cR2 F21) (.cons rS .nil) ⟨rfl, ⟨rfl, rfl, rfl, (.cons rS (.cons rS .nil))⟩, rfl, bP, rfl, bP, trivial⟩ rF) <|
    .a 3 13 <|
    .p (cS #[.tmp 36] #[25] [sV 10 2] [10, 11, 12] [(10, ⟨[sV 11 R1.length, sV 12 R2.length], 30, true, 1⟩), (11, (pB R1)), (12, (pB R2))] (.int .i64 0) (acheck_s2 R1 R2 zR1 fR1 zR2 fR2 cR1 cR2 F21) (.cons rS .nil) ⟨rfl, ⟨rfl, rfl, rfl, (.cons rS (.cons rS .nil))⟩, rfl, bP, rfl, bP, trivial⟩ rF) <|
    .a 11 13 <|
    .p (cF #[.tmp 48] #[25] [sV 7 2] 3 [7, 8, 9, 13, 14, 15] [(7, ⟨[sV 8 R2.length, sV 9 R1.length], 30, true, 1⟩), (8, (pB (R2.reverse))), (9, (pB (R1.reverse)))] [(7, ⟨[sV 8 R2.length, sV 9 R1.length], 30, true, 1⟩), (8, (pB (R2.reverse))), (9, (pB (R1.reverse))), (13, ⟨[sV 14 R1.length, sV 15 R2.length], 30, true, 1⟩), (14, (pB R1)), (15, (pB R2))] (sV 13 2) (hq) (.cons rS .nil) ⟨rfl, ⟨rfl, rfl, rfl, (.cons rS (.cons rS .nil))⟩, rfl, bP, rfl, bP, trivial⟩ ⟨rfl, ⟨rfl, rfl, rfl, (.cons rS (.cons rS .nil))⟩, rfl, bP, rfl, bP, rfl, ⟨rfl, rfl, rfl, (.cons rS (.cons rS .nil))⟩, rfl, bP, rfl, bP, trivial⟩ rS) <|
    .a 1 16 <|
    .p (cS #[.tmp 49, .tmp 50, .func 30] #[25, 25, 49] [sV 13 2, sV 10 2, .func (.func 30) #[] #[]] [13, 14, 15, 10, 11, 12] [(13, ⟨[sV 14 R1.length, sV 15 R2.length], 30, true, 1⟩), (14, (pB R1)), (15, (pB R2)), (10, ⟨[sV 11 R1.length, sV 12 R2.length], 30, true, 1⟩), (11, (pB R1)), (12, (pB R2))] (.bool true) (eqf_2 R1 R2 zR1 zR2) (.cons rS (.cons rS (.cons rF .nil))) ⟨rfl, ⟨rfl, rfl, rfl, (.cons rS (.cons rS .nil))⟩, rfl, bP, rfl, bP, rfl, ⟨rfl, rfl, rfl, (.cons rS (.cons rS .nil))⟩, rfl, bP, rfl, bP, trivial⟩ rF) <|
    .a 3 16 <|
    .p (cF #[.tmp 54] #[25] [sV 10 2] 3 [10, 11, 12, 16, 17, 18] [(10, ⟨[sV 11 R1.length, sV 12 R2.length], 30, true, 1⟩), (11, (pB R1)), (12, (pB R2))] [(10, ⟨[sV 11 R1.length, sV 12 R2.length], 30, true, 1⟩), (11, (pB R1)), (12, (pB R2)), (16, ⟨[sV 17 R1.length, sV 18 R2.length], 30, true, 1⟩), (17, (pB R1)), (18, (pB R2))] (sV 16 2) (hn) (.cons rS .nil) ⟨rfl, ⟨rfl, rfl, rfl, (.cons rS (.cons rS .nil))⟩, rfl, bP, rfl, bP, trivial⟩ ⟨rfl, ⟨rfl, rfl, rfl, (.cons rS (.cons rS .nil))⟩, rfl, bP, rfl, bP, rfl, ⟨rfl, rfl, rfl, (.cons rS (.cons rS .nil))⟩, rfl, bP, rfl, bP, trivial⟩ rS) <|
    .a 1 19 <|
    .p (cS #[.tmp 55, .tmp 56, .func 30] #[25, 25, 49] [sV 16 2, sV 10 2, .func (.func 30) #[] #[]] [16, 17, 18, 10, 11, 12] [(16, ⟨[sV 17 R1.length, sV 18 R2.length], 30, true, 1⟩), (17, (pB R1)), (18, (pB R2)), (10, ⟨[sV 11 R1.length, sV 12 R2.length], 30, true, 1⟩), (11, (pB R1)), (12, (pB R2))] (.bool true) (eqf_2 R1 R2 zR1 zR2) (.cons rS (.cons rS (.cons rF .nil))) ⟨rfl, ⟨rfl, rfl, rfl, (.cons rS (.cons rS .nil))⟩, rfl, bP, rfl, bP, rfl, ⟨rfl, rfl, rfl, (.cons rS (.cons rS .nil))⟩, rfl, bP, rfl, bP, trivial⟩ rF) <|
    .a 4 19 <|
    .p (cS #[.tmp 60, .tmp 61] #[25, 28] [sV 10 2, .agg #[.int .i64 px, .int .i64 py]] [10, 11, 12] [(10, ⟨[sV 11 R1.length, sV 12 R2.length], 30, true, 1⟩), (11, (pB R1)), (12, (pB R2))] (.int .i64 (Sp.ahF [Sp.hasF R1 (Sp.lim 1048576 px) (Sp.lim 1048576 py) 0 (-1), Sp.hasF R2 (Sp.lim 1048576 px) (Sp.lim 1048576 py) 0 (-1)] (-1))) (ahas_2 R1 R2 zR1 fR1 zR2 fR2 px py) (.cons rS (.cons rF .nil)) ⟨rfl, ⟨rfl, rfl, rfl, (.cons rS (.cons rS .nil))⟩, rfl, bP, rfl, bP, trivial⟩ rF) <|
    .a 2 19 <|
    .p (cS #[.tmp 63, .tmp 64] #[25, 28] [sV 1 2, .agg #[.int .i64 px, .int .i64 py]] [1, 2, 3] [(1, ⟨[sV 2 R1.length, sV 3 R2.length], 30, true, 1⟩), (2, (pB R1)), (3, (pB R2))] (.int .i64 (Sp.ahF [Sp.hasF R1 (Sp.lim 1048576 px) (Sp.lim 1048576 py) 0 (-1), Sp.hasF R2 (Sp.lim 1048576 px) (Sp.lim 1048576 py) 0 (-1)] (-1))) (ahas_2 R1 R2 zR1 fR1 zR2 fR2 px py) (.cons rS (.cons rF .nil)) ⟨rfl, ⟨rfl, rfl, rfl, (.cons rS (.cons rS .nil))⟩, rfl, bP, rfl, bP, trivial⟩ rF) <|
    .p (does_b true ((show ((Sp.ahF [Sp.hasF R1 (Sp.lim 1048576 px) (Sp.lim 1048576 py) 0 (-1), Sp.hasF R2 (Sp.lim 1048576 px) (Sp.lim 1048576 py) 0 (-1)] (-1)) == (Sp.ahF [Sp.hasF R1 (Sp.lim 1048576 px) (Sp.lim 1048576 py) 0 (-1), Sp.hasF R2 (Sp.lim 1048576 px) (Sp.lim 1048576 py) 0 (-1)] (-1))) = true from by simp))) <|
    .a 3 19 <|
    .p (cS #[.tmp 69] #[25] [sV 10 2] [10, 11, 12] [(10, ⟨[sV 11 R1.length, sV 12 R2.length], 30, true, 1⟩), (11, (pB R1)), (12, (pB R2))] (.int .i64 ((0 + (Sp.mx a1 (0 - a1))) + (Sp.mx a2 (0 - a2)))) (atwice_s2 R1 R2 zR1 fR1 zR2 fR2 cR1 cR2 F21 a1 a2 t1 b1 t2 b2) (.cons rS .nil) ⟨rfl, ⟨rfl, rfl, rfl, (.cons rS (.cons rS .nil))⟩, rfl, bP, rfl, bP, trivial⟩ rF) <|
    .a 1 19 <|
    .p (cS #[.tmp 71] #[25] [sV 1 2] [1, 2, 3] [(1, ⟨[sV 2 R1.length, sV 3 R2.length], 30, true, 1⟩), (2, (pB R1)), (3, (pB R2))] (.int .i64 ((0 + (Sp.mx a1 (0 - a1))) + (Sp.mx a2 (0 - a2)))) (atwice_s2 R1 R2 zR1 fR1 zR2 fR2 cR1 cR2 F21 a1 a2 t1 b1 t2 b2) (.cons rS .nil) ⟨rfl, ⟨rfl, rfl, rfl, (.cons rS (.cons rS .nil))⟩, rfl, bP, rfl, bP, trivial⟩ rF) <|
    .p (does_b true ((show (((0 + (Sp.mx a1 (0 - a1))) + (Sp.mx a2 (0 - a2))) == ((0 + (Sp.mx a1 (0 - a1))) + (Sp.mx a2 (0 - a2)))) = true from by simp))) <| .a 3 19 <|
    .p (cS #[.tmp 76] #[25] [sV 1 2] [1, 2, 3] [(1, ⟨[sV 2 R1.length, sV 3 R2.length], 30, true, 1⟩), (2, (pB R1)), (3, (pB R2))] (.int .i64 ((0 + (Sp.mx a1 (0 - a1))) + (Sp.mx a2 (0 - a2)))) (atwice_s2 R1 R2 zR1 fR1 zR2 fR2 cR1 cR2 F21 a1 a2 t1 b1 t2 b2) (.cons rS .nil) ⟨rfl, ⟨rfl, rfl, rfl, (.cons rS (.cons rS .nil))⟩, rfl, bP, rfl, bP, trivial⟩ rF) <|
    .p (does_b true (decide_eq_true ap)) <| .a 2 19 <| .nil _ _) ?_
  refine aw_rt ?_
  exact en_ret [.bool true] (by kernel_rfl)
theorem areaNorms_3 (xs : List Int) (R1 R2 : List (Int × Int)) (zR1 : 1 ≤ R1.length ∧ R1.length ≤ 200) (fR1 : Sp.Few 1000 R1) (zR2 : 1 ≤ R2.length ∧ R2.length ≤ 200) (fR2 : Sp.Few 1000 R2) (cR1 : Sp.chkF R1 = 0) (cR2 : Sp.chkF R2 = 0) (F21 : Sp.Fit R2 R1 (-1) (-1)) (hm : AC Try.prog 9 1 [.slice (some ⟨0, 0, none⟩) xs.length 0] [(0, ⟨(xs.map i64v), 3, false, 1⟩)] (.slice (some ⟨1, 0, none⟩) 2 0) [(1, ⟨[sV 2 R1.length, sV 3 R2.length], 30, true, 1⟩), (2, (pB R1)), (3, (pB R2))]) (hn : AC Try.prog 22 3 [.slice (some ⟨0, 0, none⟩) 2 0] [(0, ⟨[sV 1 R1.length, sV 2 R2.length], 30, true, 1⟩), (1, (pB R1)), (2, (pB R2))] (.slice (some ⟨3, 0, none⟩) 2 0) [(0, ⟨[sV 1 R1.length, sV 2 R2.length], 30, true, 1⟩), (1, (pB R1)), (2, (pB R2)), (3, ⟨[sV 4 R1.length, sV 5 R2.length], 30, true, 1⟩), (4, (pB R1)), (5, (pB R2))]) (hq : AC Try.prog 22 3 [.slice (some ⟨0, 0, none⟩) 2 0] [(0, ⟨[sV 1 R2.length, sV 2 R1.length], 30, true, 1⟩), (1, (pB (R2.reverse))), (2, (pB (R1.reverse)))] (.slice (some ⟨3, 0, none⟩) 2 0) [(0, ⟨[sV 1 R2.length, sV 2 R1.length], 30, true, 1⟩), (1, (pB (R2.reverse))), (2, (pB (R1.reverse))), (3, ⟨[sV 4 R1.length, sV 5 R2.length], 30, true, 1⟩), (4, (pB R1)), (5, (pB R2))]) (x px py : Int) (hx : AC Try.prog 10 0 [.int .i64 x] [] (.agg #[.int .i64 px, .int .i64 py]) []) (bpx : -40 ≤ px) (cpx : px ≤ 40) (bpy : -40 ≤ py) (cpy : py ≤ 40) (a1 a2 : Int) (t1 : Sp.twF R1 1 0 = a1) (b1 : -100000 ≤ a1 ∧ a1 ≤ 100000) (t2 : Sp.twF R2 1 0 = a2) (b2 : -100000 ≤ a2 ∧ a2 ≤ 100000) (ap : 0 < (0 + (Sp.mx a1 (0 - a1))) + (Sp.mx a2 (0 - a2))) : AC Try.prog 5 1 [sV 0 xs.length, .int .i64 x] [(0, ⟨(xs.map i64v), 3, false, 1⟩)] (.bool true) [] := by
  have m1 : 0 ≤ Sp.mx a1 (0 - a1) ∧ Sp.mx a1 (0 - a1) ≤ 100000 := (by unfold Sp.mx; split <;> omega); have m2 : 0 ≤ Sp.mx a2 (0 - a2) ∧ Sp.mx a2 (0 - a2) ≤ 100000 := (by unfold Sp.mx; split <;> omega)
  refine acm_in Try.func5 (fun w0 W pin => ?_)
  refine ax_sq 2 3 (mkSt 1 [(0, sV 0 xs.length), (1, .int .i64 x)] [(0, ⟨(xs.map i64v), 3, false, 1⟩)]) ?_ ?_
  · skip
    refine aw_p1 (
      .a 1 1 <| .nil _ _) ?_
    exact ⟨rfl, weak_b (by kernel_rfl) (by kernel_rfl) (by simp [closedB, valsB, valB, List.all_eq_true, List.mem_flatMap, List.mem_range, List.mem_map, i64v, ptc, flat1]; try (intros; simp [valsB, valB, flat1]); try decide)⟩
  refine ax_sq 6 7 (mkSt 1 [(0, sV 0 xs.length), (1, .int .i64 x)] [(0, ⟨(xs.map i64v), 3, false, 1⟩)]) ?_ ?_
  · skip
    refine aw_p 13 (
      .p (does_c (areaBegun_ok)) <| .a 1 1 <| .nil _ _) ?_
    refine aw_fl 27 ?_
    refine aw_sk ?_
    exact ⟨rfl, weak_b (by kernel_rfl) (by kernel_rfl) (by simp [closedB, valsB, valB, List.all_eq_true, List.mem_flatMap, List.mem_range, List.mem_map, i64v, ptc, flat1]; try (intros; simp [valsB, valB, flat1]); try decide)⟩
  refine ax_sq 14 15 (mkSt 1 [(5, sV 1 2), (6, .pointer (some ⟨4, 0, none⟩))] [(0, ⟨(xs.map i64v), 3, false, 1⟩), (1, ⟨[sV 2 R1.length, sV 3 R2.length], 30, true, 1⟩), (2, (pB R1)), (3, (pB R2)), (4, ⟨[.int .i64 px, .int .i64 py], 28, true, 2⟩)]) ?_ ?_
  · skip
    refine aw_p1 (
      .a 1 1 <|
      .p (cF #[.tmp 14] #[22] [sV 0 xs.length] 3 [0, 1, 2, 3] [(0, ⟨(xs.map i64v), 3, false, 1⟩)] [(1, ⟨[sV 2 R1.length, sV 3 R2.length], 30, true, 1⟩), (2, (pB R1)), (3, (pB R2))] (sV 1 2) (hm) (.cons rS .nil) ⟨rfl, ⟨rfl, rfl, rfl, (.flats (flats_map (fun _ => rfl) _))⟩, trivial⟩ ⟨rfl, ⟨rfl, rfl, rfl, (.cons rS (.cons rS .nil))⟩, rfl, bP, rfl, bP, trivial⟩ rS) <|
      .a 1 4 <| .p (does_c (hx)) <| .a 3 4 <| .nil _ _) ?_
    exact ⟨rfl, weak_b (by kernel_rfl) (by kernel_rfl) (by simp [closedB, valsB, valB, List.all_eq_true, List.mem_flatMap, List.mem_range, List.mem_map, i64v, ptc, flat1]; try (intros; simp [valsB, valB, flat1]); try decide)⟩
  refine ax_sq 30 31 (mkSt 1 [(5, sV 1 2), (6, .pointer (some ⟨4, 0, none⟩)), (7, .pointer (some ⟨5, 0, none⟩))] [(0, ⟨(xs.map i64v), 3, false, 1⟩), (1, ⟨[sV 2 R1.length, sV 3 R2.length], 30, true, 1⟩), (2, (pB R1)), (3, (pB R2)), (4, ⟨[.int .i64 px, .int .i64 py], 28, true, 2⟩), (5, ⟨[.slice none 0 0], 25, true, 1⟩)]) ?_ ?_
  · skip
    refine aw_p1 (
      .a 1 5 <| .nil _ _) ?_
    exact ⟨rfl, weak_b (by kernel_rfl) (by kernel_rfl) (by simp [closedB, valsB, valB, List.all_eq_true, List.mem_flatMap, List.mem_range, List.mem_map, i64v, ptc, flat1]; try (intros; simp [valsB, valB, flat1]); try decide)⟩
  refine ax_loop 124 63 0 (.rangeFunc (.tmp 19) #[20, 21] (.region 6 #[{ dst := some 9, op := .assign (.tmp 21), type := 30, pos := "plane.go:196", after := #[], guard := none }] false) (sb (rndOf Try.f5 125) 1)) (mkSt 1 [(5, sV 1 2), (6, .pointer (some ⟨4, 0, none⟩)), (7, .pointer (some ⟨5, 0, none⟩)), (19, .func (.func 73) #[] #[.pointer (some ⟨6, 0, none⟩)])] [(0, ⟨(xs.map i64v), 3, false, 1⟩), (1, ⟨[sV 2 R1.length, sV 3 R2.length], 30, true, 1⟩), (2, (pB R1)), (3, (pB R2)), (4, ⟨[.int .i64 px, .int .i64 py], 28, true, 2⟩), (5, ⟨[.slice none 0 0], 25, true, 1⟩), (6, ⟨[sV 1 2], 25, true, 1⟩)]) ?_ (fun ρ a w hr => ?_)
  · skip
    refine aw_p1 (
      .a 1 6 <|
      .p (cF #[.tmp 18] #[25] [sV 1 2] 1 [1, 2, 3, 6] [(1, ⟨[sV 2 R1.length, sV 3 R2.length], 30, true, 1⟩), (2, (pB R1)), (3, (pB R2))] [(1, ⟨[sV 2 R1.length, sV 3 R2.length], 30, true, 1⟩), (2, (pB R1)), (3, (pB R2)), (6, ⟨[sV 1 2], 25, true, 1⟩)] (.func (.func 73) #[] #[.pointer (some ⟨6, 0, none⟩)]) (backward_2 R1 R2) (.cons rS .nil) ⟨rfl, ⟨rfl, rfl, rfl, (.cons rS (.cons rS .nil))⟩, rfl, bP, rfl, bP, trivial⟩ ⟨rfl, ⟨rfl, rfl, rfl, (.cons rS (.cons rS .nil))⟩, rfl, bP, rfl, bP, rfl, ⟨rfl, rfl, rfl, (.cons rS .nil)⟩, trivial⟩ (.funcL (.flats (by kernel_rfl)) (.cons (.ptr _ _ (by decide)) .nil))) <| .nil _ _) ?_
    exact ⟨rfl, weak_b (by kernel_rfl) (by kernel_rfl) (by simp [closedB, valsB, valB, List.all_eq_true, List.mem_flatMap, List.mem_range, List.mem_map, i64v, ptc, flat1]; try (intros; simp [valsB, valB, flat1]); try decide)⟩
  · exact wp_range' (C := ⟨w0, W, Try.f5.ntmps, 1, pin, []⟩) [(5, sV 1 2), (6, .pointer (some ⟨4, 0, none⟩)), (7, .pointer (some ⟨5, 0, none⟩)), (19, .func (.func 73) #[] #[.pointer (some ⟨6, 0, none⟩)])] [(0, ⟨(xs.map i64v), 3, false, 1⟩), (1, ⟨[sV 2 R1.length, sV 3 R2.length], 30, true, 1⟩), (2, (pB R1)), (3, (pB R2)), (4, ⟨[.int .i64 px, .int .i64 py], 28, true, 2⟩), (5, ⟨[.slice none 0 0], 25, true, 1⟩), (6, ⟨[sV 1 2], 25, true, 1⟩)] [(2, (pB R1)), (3, (pB R2)), (5, ⟨[.slice none 0 0], 25, true, 1⟩)] [(2, (pB R1)), (3, (pB R2)), (5, ⟨[sV 7 2], 25, true, 1⟩), (7, ⟨[sV 8 R2.length, sV 9 R1.length], 30, true, 1⟩), (8, (pB (R2.reverse))), (9, (pB (R1.reverse)))] [(0, ⟨(xs.map i64v), 3, false, 1⟩), (1, ⟨[sV 2 R1.length, sV 3 R2.length], 30, true, 1⟩), (4, ⟨[.int .i64 px, .int .i64 py], 28, true, 2⟩), (6, ⟨[sV 1 2], 25, true, 1⟩)] [(7, .pointer (some ⟨5, 0, none⟩))] 7 19 20 21 9 73 2 (anL2 R1 R2) (anU2 R1 R2) 6 1 0 0 ⟨[sV 1 2], 25, true, 1⟩ ⟨[sV 2 R1.length, sV 3 R2.length], 30, true, 1⟩ rfl hr (back_n2) back_enters (rounds_2 R1 R2 zR1 zR2) (fun D ρ' w1 h1 h2 h3 h4 => wp_mono (areaNorms_rest_3 xs R1 R2 zR1 fR1 zR2 fR2 cR1 cR2 F21 hm hn hq x px py hx bpx cpx bpy cpy a1 a2 t1 b1 t2 b2 ap w1 _ pin [mark D] ρ' _ w1 h4) (after_of h1 h2 h3)) rfl rfl rfl rfl rfl rfl (fun j => match j with | ⟨0, _⟩ => rfl | ⟨1, _⟩ => rfl) (hcl := (by simp [closedB, valsB, valB, List.all_eq_true, List.mem_flatMap, List.mem_range, List.mem_map, i64v, ptc, flat1]; try (intros; simp [valsB, valB, flat1]); try decide))
end Go.Proofs.Ytndkhgfecnbmnaa.Am

namespace Go.Proofs.Ytndkhgfecnbmnaa.Am
open Go Go.Proofs
set_option maxRecDepth 100000
set_option maxHeartbeats 4000000
set_option linter.unusedVariables false
set_option linter.unusedSimpArgs false
theorem revtail_ok (x y r : Int) :
    AC Try.prog 33 1 ([.slice (some ⟨0, 2, none⟩) 3 0]) [(0, ⟨[.int .i64 (x - r), .int .i64 (y - r), .int .i64 (x + r), .int .i64 (y - r), .int .i64 (x + r), .int .i64 (y + r), .int .i64 (x - r), .int .i64 (y + r)], 28, true, 2⟩)] (.tuple #[]) [(0, ⟨[.int .i64 (x - r), .int .i64 (y - r), .int .i64 (x - r), .int .i64 (y + r), .int .i64 (x + r), .int .i64 (y + r), .int .i64 (x + r), .int .i64 (y - r)], 28, true, 2⟩)] := by
  refine ac_in Try.func33 (fun w0 W pin => ?_)
  refine aw_p 3 (
    .a 5 1 <| .nil _ _) ?_
  refine aw_bl 0 7 ?_
  refine aw_lp 15 ?_
  refine al_round ?_
  refine aw_sq 30 31 ?_
  refine aw_p 61 (
    .a 3 1 <| .nil _ _) ?_
  refine aw_tr 122 ?_
  refine aw_sk ?_
  refine then_normal ?_
  refine aw_sq 62 63 ?_
  refine aw_bl 1 125 ?_
  refine aw_d1 (
    .a 16 1 <| .nil _ _) ?_
  refine block_normal ?_
  refine then_normal ?_
  refine aw_p1 (
    .a 6 1 <| .nil _ _) ?_
  refine then_normal ?_
  refine al_round ?_
  refine aw_sq 30 31 ?_
  refine aw_p 61 (
    .a 3 1 <| .nil _ _) ?_
  refine aw_fl 123 ?_
  refine aw_ex 0 ?_
  refine then_exit ?_
  refine then_exit ?_
  refine block_exit ?_
  exact en_normal [] (by kernel_rfl)
theorem cmpf_ok (R1 R2 : List (Int × Int)) (z1 : 1 ≤ R1.length) (z2 : 1 ≤ R2.length) (y1 : R1.length ≤ 200) (y2 : R2.length ≤ 200) (o2 : Sp.pcmp (R2.getD 0 (0, 0)).1 (R2.getD 0 (0, 0)).2 (R1.getD 0 (0, 0)).1 (R1.getD 0 (0, 0)).2 = 1) :
    AC Try.prog 67 2 ([sV 0 R2.length, sV 1 R1.length, .func (.func 68) #[] #[]]) [(0, (pB R2)), (1, (pB R1))] (.int .i64 1) [(0, (pB R2)), (1, (pB R1))] := by
  refine ac_in Try.func67 (fun w0 W pin => ?_)
  refine aw_p 3 (
    .a 1 2 <| .nil _ _) ?_
  refine aw_sq 6 7 ?_
  refine aw_p 13 (
    .a 3 2 <| .nil _ _) ?_
  refine aw_bl 0 27 ?_
  refine aw_lp 55 ?_
  refine al_round ?_
  refine aw_p 111 (
    .p (does_b true ((show (decide (0 < ((R2.length : Nat) : Int))) = true from decide_eq_true (by omega)))) <| .nil _ _) ?_
  refine aw_sq 222 223 ?_
  refine aw_tr 444 ?_
  refine aw_sk ?_
  refine then_normal ?_
  refine aw_sq 446 447 ?_
  refine aw_bl 1 893 ?_
  refine aw_p 1787 (
    .a 1 2 <| .p (does_indexSlice (t := 30) (x := .tmp 11) (y := .tmp 13) (k := 0) (off := 0) (n := R2.length) (c := 0) (z := 2) (kd := .i64) (j := 0) (by kernel_rfl) (by kernel_rfl) (by kernel_rfl) (by kernel_rfl) (by kernel_rfl) (by omega) (by omega)) <|
    .p (does_load (t := 28) (x := .tmp 16) (k := 0) (off := 0) (b := (pB R2)) (v := .agg #[.int .i64 ((R2.getD 0 (0, 0)).1), .int .i64 ((R2.getD 0 (0, 0)).2)]) (by kernel_rfl) (by kernel_rfl) (by kernel_rfl) (ldV_pair (j := 0) (by kernel_rfl) (by kernel_rfl) (by omega) (by omega))) <| .a 3 2 <| .nil _ _) ?_
  refine aw_sq 3574 3575 ?_
  refine aw_p 7149 (
    .a 3 3 <| .p (does_b false ((show (decide (0 ≥ ((R1.length : Nat) : Int))) = false from decide_eq_false (by omega)))) <| .nil _ _) ?_
  refine aw_fl 14299 ?_
  refine aw_sk ?_
  refine then_normal ?_
  refine aw_p 7151 (
    .a 2 3 <| .p (does_indexSlice (t := 30) (x := .tmp 22) (y := .tmp 23) (k := 1) (off := 0) (n := R1.length) (c := 0) (z := 2) (kd := .i64) (j := 0) (by kernel_rfl) (by kernel_rfl) (by kernel_rfl) (by kernel_rfl) (by kernel_rfl) (by omega) (by omega)) <|
    .p (does_load (t := 28) (x := .tmp 24) (k := 1) (off := 0) (b := (pB R1)) (v := .agg #[.int .i64 ((R1.getD 0 (0, 0)).1), .int .i64 ((R1.getD 0 (0, 0)).2)]) (by kernel_rfl) (by kernel_rfl) (by kernel_rfl) (ldV_pair (j := 0) (by kernel_rfl) (by kernel_rfl) (by omega) (by omega))) <| .a 2 3 <| .nil _ _) ?_
  refine aw_p 14303 (
    .a 3 4 <| .p (does_c ((by have h := pcmp_ok (R2.getD 0 (0, 0)).1 (R2.getD 0 (0, 0)).2 (R1.getD 0 (0, 0)).1 (R1.getD 0 (0, 0)).2; rw [o2] at h; exact h))) <| .a 1 4 <| .nil _ _) ?_
  refine aw_p 28607 (
    .a 2 4 <| .nil _ _) ?_
  refine aw_tr 57214 ?_
  refine aw_p 114429 (
    .a 2 4 <| .nil _ _) ?_
  refine aw_rt ?_
  refine block_ret ?_
  refine then_ret ?_
  refine then_ret ?_
  refine block_ret ?_
  refine then_ret ?_
  exact en_ret [.int .i64 1] (by kernel_rfl)
theorem nrm1_ok (R1 R2 : List (Int × Int)) (z1 : 1 ≤ R1.length) (z2 : 1 ≤ R2.length) (y1 : R1.length ≤ 200) (y2 : R2.length ≤ 200) (o2 : Sp.pcmp (R2.getD 0 (0, 0)).1 (R2.getD 0 (0, 0)).2 (R1.getD 0 (0, 0)).1 (R1.getD 0 (0, 0)).2 = 1) :
    AC Try.prog 66 2 ([sV 0 R2.length, sV 1 R1.length]) [(0, (pB R2)), (1, (pB R1))] (.int .i64 1) [(0, (pB R2)), (1, (pB R1))] := by
  refine ac_in Try.func66 (fun w0 W pin => ?_)
  refine aw_p 3 (
    .a 1 2 <| .nil _ _) ?_
  refine aw_p 7 (
    .a 2 2 <| .p (cS #[.tmp 5, .tmp 6, .func 68] #[30, 30, 82] [sV 0 R2.length, sV 1 R1.length, .func (.func 68) #[] #[]] [0, 1] [(0, (pB R2)), (1, (pB R1))] (.int .i64 1) (cmpf_ok R1 R2 z1 z2 y1 y2 o2) (.cons rS (.cons rS (.cons rF .nil))) ⟨rfl, bP, rfl, bP, trivial⟩ rF) <| .a 1 2 <| .nil _ _) ?_
  refine aw_rt ?_
  exact en_ret [.int .i64 1] (by kernel_rfl)
end Go.Proofs.Ytndkhgfecnbmnaa.Am

namespace Go.Proofs.Ytndkhgfecnbmnaa.Am
open Go Go.Proofs
set_option maxRecDepth 100000
set_option maxHeartbeats 4000000
set_option linter.unusedVariables false
set_option linter.unusedSimpArgs false
theorem ins_1 (R1 : List (Int × Int)) (zR1 : 1 ≤ R1.length ∧ R1.length ≤ 200)  :
    AC Try.prog 125 2 ([sV 0 1, .int .i64 0, .int .i64 1, .func (.func 66) #[] #[]]) [(0, ⟨[sV 1 R1.length], 30, true, 1⟩), (1, (pB R1))] (.tuple #[]) [(0, ⟨[sV 1 R1.length], 30, true, 1⟩), (1, (pB R1))] := by
  refine ac_in Try.func125 (fun w0 W pin => ?_)
  refine aw_p 3 (
    .a 3 2 <| .nil _ _) ?_
  refine aw_bl 0 7 ?_
  refine aw_lp 15 ?_
  refine al_round ?_
  refine aw_sq 30 31 ?_
  refine aw_p 61 (
    .a 3 2 <| .nil _ _) ?_
  refine aw_fl 123 ?_
  refine aw_ex 0 ?_
  refine then_exit ?_
  refine then_exit ?_
  refine block_exit ?_
  exact en_normal [] (by kernel_rfl)
theorem pdq_1 (R1 : List (Int × Int)) (zR1 : 1 ≤ R1.length ∧ R1.length ≤ 200)  :
    AC Try.prog 104 2 ([sV 0 1, .int .i64 0, .int .i64 1, .int .i64 1, .func (.func 66) #[] #[]]) [(0, ⟨[sV 1 R1.length], 30, true, 1⟩), (1, (pB R1))] (.tuple #[]) [(0, ⟨[sV 1 R1.length], 30, true, 1⟩), (1, (pB R1))] := by
  refine ac_in Try.func104 (fun w0 W pin => ?_)
  refine aw_p 3 (
    .a 1 2 <| .nil _ _) ?_
  refine aw_p 7 (
    .a 1 2 <| .nil _ _) ?_
  refine aw_bl 0 15 ?_
  refine aw_lp 31 ?_
  refine al_round ?_
  refine aw_bl 1 63 ?_
  refine aw_p 127 (
    .a 4 2 <| .nil _ _) ?_
  refine aw_sq 254 255 ?_
  refine aw_p 509 (
    .a 2 2 <| .nil _ _) ?_
  refine aw_tr 1018 ?_
  refine aw_p 2037 (
    .a 4 2 <|
    .p (cS #[.tmp 26, .tmp 27, .tmp 28, .tmp 29] #[24, 3, 3, 83] [sV 0 1, .int .i64 0, .int .i64 1, .func (.func 66) #[] #[]] [0, 1] [(0, ⟨[sV 1 R1.length], 30, true, 1⟩), (1, (pB R1))] (.tuple #[]) (ins_1 R1 zR1) (.cons rS (.cons rF (.cons rF (.cons rF .nil)))) ⟨rfl, ⟨rfl, rfl, rfl, (.cons rS .nil)⟩, rfl, bP, trivial⟩ rF) <| .nil _ _) ?_
  refine aw_rt ?_
  refine then_ret ?_
  refine block_ret ?_
  refine then_ret ?_
  refine block_ret ?_
  exact en_ret [] (by kernel_rfl)
theorem auy_1  :
    AC Try.prog 134 0 ([.int .u64 1]) [] (.int .i64 1) [] := by
  refine ac_in Try.func134 (fun w0 W pin => ?_)
  refine aw_p 3 (
    .a 1 1 <| .nil _ _) ?_
  refine aw_sq 6 7 ?_
  refine aw_p 13 (
    .a 2 1 <| .nil _ _) ?_
  refine aw_fl 27 ?_
  refine aw_sk ?_
  refine then_normal ?_
  refine aw_sq 14 15 ?_
  refine aw_p 29 (
    .a 2 1 <| .nil _ _) ?_
  refine aw_fl 59 ?_
  refine aw_sk ?_
  refine then_normal ?_
  refine aw_sq 30 31 ?_
  refine aw_p 61 (
    .a 2 1 <| .nil _ _) ?_
  refine aw_fl 123 ?_
  refine aw_sk ?_
  refine then_normal ?_
  refine aw_p 63 (
    .a 3 1 <|
    .p (does_val (v' := .int .u8 1) (does_ixs (s := (ByteArray.mk #[0, 1, 2, 2, 3, 3, 3, 3, 4, 4, 4, 4, 4, 4, 4, 4, 5, 5, 5, 5, 5, 5, 5, 5, 5, 5, 5, 5, 5, 5, 5, 5, 6, 6, 6, 6, 6, 6, 6, 6, 6, 6, 6, 6, 6, 6, 6, 6, 6, 6, 6, 6, 6, 6, 6, 6, 6, 6, 6, 6, 6, 6, 6, 6, 7, 7, 7, 7, 7, 7, 7, 7, 7, 7, 7, 7, 7, 7, 7, 7, 7, 7, 7, 7, 7, 7, 7, 7, 7, 7, 7, 7, 7, 7, 7, 7, 7, 7, 7, 7, 7, 7, 7, 7, 7, 7, 7, 7, 7, 7, 7, 7, 7, 7, 7, 7, 7, 7, 7, 7, 7, 7, 7, 7, 7, 7, 7, 7, 8, 8, 8, 8, 8, 8, 8, 8, 8, 8, 8, 8, 8, 8, 8, 8, 8, 8, 8, 8, 8, 8, 8, 8, 8, 8, 8, 8, 8, 8, 8, 8, 8, 8, 8, 8, 8, 8, 8, 8, 8, 8, 8, 8, 8, 8, 8, 8, 8, 8, 8, 8, 8, 8, 8, 8, 8, 8, 8, 8, 8, 8, 8, 8, 8, 8, 8, 8, 8, 8, 8, 8, 8, 8, 8, 8, 8, 8, 8, 8, 8, 8, 8, 8, 8, 8, 8, 8, 8, 8, 8, 8, 8, 8, 8, 8, 8, 8, 8, 8, 8, 8, 8, 8, 8, 8, 8, 8, 8, 8, 8, 8, 8, 8, 8, 8, 8, 8, 8, 8, 8, 8, 8, 8, 8, 8, 8, 8])) (j := 1) (b := (1 : UInt8)) (by decide) (by kernel_rfl)) (by kernel_rfl)) <|
    .a 3 1 <| .nil _ _) ?_
  refine aw_rt ?_
  exact en_ret [.int .i64 1] (by kernel_rfl)
theorem auy_2  :
    AC Try.prog 105 0 ([.int .u64 1]) [] (.int .i64 1) [] := by
  refine ac_in Try.func105 (fun w0 W pin => ?_)
  refine aw_p 3 (
    .a 1 1 <| .nil _ _) ?_
  refine aw_sq 6 7 ?_
  refine aw_fl 13 ?_
  refine aw_sk ?_
  refine then_normal ?_
  refine aw_p 15 (
    .a 1 1 <| .p (does_c (auy_1)) <| .a 1 1 <| .nil _ _) ?_
  refine aw_rt ?_
  exact en_ret [.int .i64 1] (by kernel_rfl)
theorem srt_1 (R1 : List (Int × Int)) (zR1 : 1 ≤ R1.length ∧ R1.length ≤ 200)  :
    AC Try.prog 65 2 ([sV 0 1, .func (.func 66) #[] #[]]) [(0, ⟨[sV 1 R1.length], 30, true, 1⟩), (1, (pB R1))] (.tuple #[]) [(0, ⟨[sV 1 R1.length], 30, true, 1⟩), (1, (pB R1))] := by
  refine ac_in Try.func65 (fun w0 W pin => ?_)
  refine aw_p 3 (
    .a 3 2 <| .nil _ _) ?_
  refine aw_p1 (
    .a 4 2 <| .p (does_c (auy_2)) <| .a 1 2 <|
    .p (cS #[.tmp 7, .const (.int .i64 0), .tmp 8, .tmp 11, .tmp 12] #[24, 3, 3, 3, 83] [sV 0 1, .int .i64 0, .int .i64 1, .int .i64 1, .func (.func 66) #[] #[]] [0, 1] [(0, ⟨[sV 1 R1.length], 30, true, 1⟩), (1, (pB R1))] (.tuple #[]) (pdq_1 R1 zR1) (.cons rS (.cons rF (.cons rF (.cons rF (.cons rF .nil))))) ⟨rfl, ⟨rfl, rfl, rfl, (.cons rS .nil)⟩, rfl, bP, trivial⟩ rF) <| .nil _ _) ?_
  exact en_normal [] (by kernel_rfl)
theorem ins_2 (R1 R2 : List (Int × Int)) (zR1 : 1 ≤ R1.length ∧ R1.length ≤ 200) (zR2 : 1 ≤ R2.length ∧ R2.length ≤ 200) (o2 : Sp.pcmp (R2.getD 0 (0, 0)).1 (R2.getD 0 (0, 0)).2 (R1.getD 0 (0, 0)).1 (R1.getD 0 (0, 0)).2 = 1) :
    AC Try.prog 125 3 ([sV 0 2, .int .i64 0, .int .i64 2, .func (.func 66) #[] #[]]) [(0, ⟨[sV 1 R1.length, sV 2 R2.length], 30, true, 1⟩), (1, (pB R1)), (2, (pB R2))] (.tuple #[]) [(0, ⟨[sV 1 R1.length, sV 2 R2.length], 30, true, 1⟩), (1, (pB R1)), (2, (pB R2))] := by
  refine ac_in Try.func125 (fun w0 W pin => ?_)
  refine aw_p 3 (
    .a 3 3 <| .nil _ _) ?_
  refine aw_bl 0 7 ?_
  refine aw_lp 15 ?_
  refine al_round ?_
  refine aw_sq 30 31 ?_
  refine aw_p 61 (
    .a 3 3 <| .nil _ _) ?_
  refine aw_tr 122 ?_
  refine aw_sk ?_
  refine then_normal ?_
  refine aw_sq 62 63 ?_
  refine aw_bl 1 125 ?_
  refine aw_p 251 (
    .a 2 3 <| .nil _ _) ?_
  refine aw_bl 2 503 ?_
  refine aw_lp 1007 ?_
  refine al_round ?_
  refine aw_sq 2014 2015 ?_
  refine aw_d 4029 (
    .a 14 3 <|
    .p (does_callB (x := .tmp 22) (ars := #[.tmp 26, .tmp 31]) (ats := #[30, 30]) (g := 66) (vs := [sV 2 R2.length, sV 1 R1.length]) (m := 2) (r := 0) (firsts := #[]) (caps := #[]) (args0 := [sV 0 R2.length, sV 1 R1.length]) (pre0 := [(0, (pB R2)), (1, (pB R1))]) (post0 := [(0, (pB R2)), (1, (pB R1))]) (pre := [(2, (pB R2)), (1, (pB R1))]) (post := [(2, (pB R2)), (1, (pB R1))]) (v0 := .int .i64 1) (v := .int .i64 1) [2, 1] (by kernel_rfl) (by kernel_rfl) (by kernel_rfl) (by kernel_rfl) (nrm1_ok R1 R2 zR1.1 zR2.1 zR1.2 zR2.2 o2) (.cons rS (.cons rS .nil)) ⟨rfl, bP, rfl, bP, trivial⟩ (by kernel_rfl) (by kernel_rfl) (by kernel_rfl) ⟨rfl, bP, rfl, bP, trivial⟩ rF) <|
    .a 2 3 <| .nil _ _) ?_
  refine aw_fl 8059 ?_
  refine aw_ex 2 ?_
  refine then_exit ?_
  refine then_exit ?_
  refine block_exit ?_
  refine block_normal ?_
  refine then_normal ?_
  refine aw_p1 (
    .a 3 3 <| .nil _ _) ?_
  refine then_normal ?_
  refine al_round ?_
  refine aw_sq 30 31 ?_
  refine aw_p 61 (
    .a 3 3 <| .nil _ _) ?_
  refine aw_fl 123 ?_
  refine aw_ex 0 ?_
  refine then_exit ?_
  refine then_exit ?_
  refine block_exit ?_
  exact en_normal [] (by kernel_rfl)
theorem pdq_2 (R1 R2 : List (Int × Int)) (zR1 : 1 ≤ R1.length ∧ R1.length ≤ 200) (zR2 : 1 ≤ R2.length ∧ R2.length ≤ 200) (o2 : Sp.pcmp (R2.getD 0 (0, 0)).1 (R2.getD 0 (0, 0)).2 (R1.getD 0 (0, 0)).1 (R1.getD 0 (0, 0)).2 = 1) :
    AC Try.prog 104 3 ([sV 0 2, .int .i64 0, .int .i64 2, .int .i64 2, .func (.func 66) #[] #[]]) [(0, ⟨[sV 1 R1.length, sV 2 R2.length], 30, true, 1⟩), (1, (pB R1)), (2, (pB R2))] (.tuple #[]) [(0, ⟨[sV 1 R1.length, sV 2 R2.length], 30, true, 1⟩), (1, (pB R1)), (2, (pB R2))] := by
  refine ac_in Try.func104 (fun w0 W pin => ?_)
  refine aw_p 3 (
    .a 1 3 <| .nil _ _) ?_
  refine aw_p 7 (
    .a 1 3 <| .nil _ _) ?_
  refine aw_bl 0 15 ?_
  refine aw_lp 31 ?_
  refine al_round ?_
  refine aw_bl 1 63 ?_
  refine aw_p 127 (
    .a 4 3 <| .nil _ _) ?_
  refine aw_sq 254 255 ?_
  refine aw_p 509 (
    .a 2 3 <| .nil _ _) ?_
  refine aw_tr 1018 ?_
  refine aw_p 2037 (
    .a 4 3 <|
    .p (cS #[.tmp 26, .tmp 27, .tmp 28, .tmp 29] #[24, 3, 3, 83] [sV 0 2, .int .i64 0, .int .i64 2, .func (.func 66) #[] #[]] [0, 1, 2] [(0, ⟨[sV 1 R1.length, sV 2 R2.length], 30, true, 1⟩), (1, (pB R1)), (2, (pB R2))] (.tuple #[]) (ins_2 R1 R2 zR1 zR2 o2) (.cons rS (.cons rF (.cons rF (.cons rF .nil)))) ⟨rfl, ⟨rfl, rfl, rfl, (.cons rS (.cons rS .nil))⟩, rfl, bP, rfl, bP, trivial⟩ rF) <| .nil _ _) ?_
  refine aw_rt ?_
  refine then_ret ?_
  refine block_ret ?_
  refine then_ret ?_
  refine block_ret ?_
  exact en_ret [] (by kernel_rfl)
theorem auy_3  :
    AC Try.prog 134 0 ([.int .u64 2]) [] (.int .i64 2) [] := by
  refine ac_in Try.func134 (fun w0 W pin => ?_)
  refine aw_p 3 (
    .a 1 1 <| .nil _ _) ?_
  refine aw_sq 6 7 ?_
  refine aw_p 13 (
    .a 2 1 <| .nil _ _) ?_
  refine aw_fl 27 ?_
  refine aw_sk ?_
  refine then_normal ?_
  refine aw_sq 14 15 ?_
  refine aw_p 29 (
    .a 2 1 <| .nil _ _) ?_
  refine aw_fl 59 ?_
  refine aw_sk ?_
  refine then_normal ?_
  refine aw_sq 30 31 ?_
  refine aw_p 61 (
    .a 2 1 <| .nil _ _) ?_
  refine aw_fl 123 ?_
  refine aw_sk ?_
  refine then_normal ?_
  refine aw_p 63 (
    .a 3 1 <|
    .p (does_val (v' := .int .u8 2) (does_ixs (s := (ByteArray.mk #[0, 1, 2, 2, 3, 3, 3, 3, 4, 4, 4, 4, 4, 4, 4, 4, 5, 5, 5, 5, 5, 5, 5, 5, 5, 5, 5, 5, 5, 5, 5, 5, 6, 6, 6, 6, 6, 6, 6, 6, 6, 6, 6, 6, 6, 6, 6, 6, 6, 6, 6, 6, 6, 6, 6, 6, 6, 6, 6, 6, 6, 6, 6, 6, 7, 7, 7, 7, 7, 7, 7, 7, 7, 7, 7, 7, 7, 7, 7, 7, 7, 7, 7, 7, 7, 7, 7, 7, 7, 7, 7, 7, 7, 7, 7, 7, 7, 7, 7, 7, 7, 7, 7, 7, 7, 7, 7, 7, 7, 7, 7, 7, 7, 7, 7, 7, 7, 7, 7, 7, 7, 7, 7, 7, 7, 7, 7, 7, 8, 8, 8, 8, 8, 8, 8, 8, 8, 8, 8, 8, 8, 8, 8, 8, 8, 8, 8, 8, 8, 8, 8, 8, 8, 8, 8, 8, 8, 8, 8, 8, 8, 8, 8, 8, 8, 8, 8, 8, 8, 8, 8, 8, 8, 8, 8, 8, 8, 8, 8, 8, 8, 8, 8, 8, 8, 8, 8, 8, 8, 8, 8, 8, 8, 8, 8, 8, 8, 8, 8, 8, 8, 8, 8, 8, 8, 8, 8, 8, 8, 8, 8, 8, 8, 8, 8, 8, 8, 8, 8, 8, 8, 8, 8, 8, 8, 8, 8, 8, 8, 8, 8, 8, 8, 8, 8, 8, 8, 8, 8, 8, 8, 8, 8, 8, 8, 8, 8, 8, 8, 8, 8, 8, 8, 8, 8, 8])) (j := 2) (b := (2 : UInt8)) (by decide) (by kernel_rfl)) (by kernel_rfl)) <|
    .a 3 1 <| .nil _ _) ?_
  refine aw_rt ?_
  exact en_ret [.int .i64 2] (by kernel_rfl)
theorem auy_4  :
    AC Try.prog 105 0 ([.int .u64 2]) [] (.int .i64 2) [] := by
  refine ac_in Try.func105 (fun w0 W pin => ?_)
  refine aw_p 3 (
    .a 1 1 <| .nil _ _) ?_
  refine aw_sq 6 7 ?_
  refine aw_fl 13 ?_
  refine aw_sk ?_
  refine then_normal ?_
  refine aw_p 15 (
    .a 1 1 <| .p (does_c (auy_3)) <| .a 1 1 <| .nil _ _) ?_
  refine aw_rt ?_
  exact en_ret [.int .i64 2] (by kernel_rfl)
theorem srt_2 (R1 R2 : List (Int × Int)) (zR1 : 1 ≤ R1.length ∧ R1.length ≤ 200) (zR2 : 1 ≤ R2.length ∧ R2.length ≤ 200) (o2 : Sp.pcmp (R2.getD 0 (0, 0)).1 (R2.getD 0 (0, 0)).2 (R1.getD 0 (0, 0)).1 (R1.getD 0 (0, 0)).2 = 1) :
    AC Try.prog 65 3 ([sV 0 2, .func (.func 66) #[] #[]]) [(0, ⟨[sV 1 R1.length, sV 2 R2.length], 30, true, 1⟩), (1, (pB R1)), (2, (pB R2))] (.tuple #[]) [(0, ⟨[sV 1 R1.length, sV 2 R2.length], 30, true, 1⟩), (1, (pB R1)), (2, (pB R2))] := by
  refine ac_in Try.func65 (fun w0 W pin => ?_)
  refine aw_p 3 (
    .a 3 3 <| .nil _ _) ?_
  refine aw_p1 (
    .a 4 3 <| .p (does_c (auy_4)) <| .a 1 3 <|
    .p (cS #[.tmp 7, .const (.int .i64 0), .tmp 8, .tmp 11, .tmp 12] #[24, 3, 3, 3, 83] [sV 0 2, .int .i64 0, .int .i64 2, .int .i64 2, .func (.func 66) #[] #[]] [0, 1, 2] [(0, ⟨[sV 1 R1.length, sV 2 R2.length], 30, true, 1⟩), (1, (pB R1)), (2, (pB R2))] (.tuple #[]) (pdq_2 R1 R2 zR1 zR2 o2) (.cons rS (.cons rF (.cons rF (.cons rF (.cons rF .nil))))) ⟨rfl, ⟨rfl, rfl, rfl, (.cons rS (.cons rS .nil))⟩, rfl, bP, rfl, bP, trivial⟩ rF) <| .nil _ _) ?_
  exact en_normal [] (by kernel_rfl)
theorem ins_3 (R1 R2 R3 : List (Int × Int)) (zR1 : 1 ≤ R1.length ∧ R1.length ≤ 200) (zR2 : 1 ≤ R2.length ∧ R2.length ≤ 200) (zR3 : 1 ≤ R3.length ∧ R3.length ≤ 200) (o2 : Sp.pcmp (R2.getD 0 (0, 0)).1 (R2.getD 0 (0, 0)).2 (R1.getD 0 (0, 0)).1 (R1.getD 0 (0, 0)).2 = 1) (o3 : Sp.pcmp (R3.getD 0 (0, 0)).1 (R3.getD 0 (0, 0)).2 (R2.getD 0 (0, 0)).1 (R2.getD 0 (0, 0)).2 = 1) :
    AC Try.prog 125 4 ([sV 0 3, .int .i64 0, .int .i64 3, .func (.func 66) #[] #[]]) [(0, ⟨[sV 1 R1.length, sV 2 R2.length, sV 3 R3.length], 30, true, 1⟩), (1, (pB R1)), (2, (pB R2)), (3, (pB R3))] (.tuple #[]) [(0, ⟨[sV 1 R1.length, sV 2 R2.length, sV 3 R3.length], 30, true, 1⟩), (1, (pB R1)), (2, (pB R2)), (3, (pB R3))] := by
  refine ac_in Try.func125 (fun w0 W pin => ?_)
  refine aw_p 3 (
    .a 3 4 <| .nil _ _) ?_
  refine aw_bl 0 7 ?_
  refine aw_lp 15 ?_
  refine al_round ?_
  refine aw_sq 30 31 ?_
  refine aw_p 61 (
    .a 3 4 <| .nil _ _) ?_
  refine aw_tr 122 ?_
  refine aw_sk ?_
  refine then_normal ?_
  refine aw_sq 62 63 ?_
  refine aw_bl 1 125 ?_
  refine aw_p 251 (
    .a 2 4 <| .nil _ _) ?_
  refine aw_bl 2 503 ?_
  refine aw_lp 1007 ?_
  refine al_round ?_
  refine aw_sq 2014 2015 ?_
  refine aw_d 4029 (
    .a 14 4 <|
    .p (does_callB (x := .tmp 22) (ars := #[.tmp 26, .tmp 31]) (ats := #[30, 30]) (g := 66) (vs := [sV 2 R2.length, sV 1 R1.length]) (m := 2) (r := 0) (firsts := #[]) (caps := #[]) (args0 := [sV 0 R2.length, sV 1 R1.length]) (pre0 := [(0, (pB R2)), (1, (pB R1))]) (post0 := [(0, (pB R2)), (1, (pB R1))]) (pre := [(2, (pB R2)), (1, (pB R1))]) (post := [(2, (pB R2)), (1, (pB R1))]) (v0 := .int .i64 1) (v := .int .i64 1) [2, 1] (by kernel_rfl) (by kernel_rfl) (by kernel_rfl) (by kernel_rfl) (nrm1_ok R1 R2 zR1.1 zR2.1 zR1.2 zR2.2 o2) (.cons rS (.cons rS .nil)) ⟨rfl, bP, rfl, bP, trivial⟩ (by kernel_rfl) (by kernel_rfl) (by kernel_rfl) ⟨rfl, bP, rfl, bP, trivial⟩ rF) <|
    .a 2 4 <| .nil _ _) ?_
  refine aw_fl 8059 ?_
  refine aw_ex 2 ?_
  refine then_exit ?_
  refine then_exit ?_
  refine block_exit ?_
  refine block_normal ?_
  refine then_normal ?_
  refine aw_p1 (
    .a 3 4 <| .nil _ _) ?_
  refine then_normal ?_
  refine al_round ?_
  refine aw_sq 30 31 ?_
  refine aw_p 61 (
    .a 3 4 <| .nil _ _) ?_
  refine aw_tr 122 ?_
  refine aw_sk ?_
  refine then_normal ?_
  refine aw_sq 62 63 ?_
  refine aw_bl 1 125 ?_
  refine aw_p 251 (
    .a 2 4 <| .nil _ _) ?_
  refine aw_bl 2 503 ?_
  refine aw_lp 1007 ?_
  refine al_round ?_
  refine aw_sq 2014 2015 ?_
  refine aw_d 4029 (
    .a 14 4 <|
    .p (does_callB (x := .tmp 22) (ars := #[.tmp 26, .tmp 31]) (ats := #[30, 30]) (g := 66) (vs := [sV 3 R3.length, sV 2 R2.length]) (m := 2) (r := 0) (firsts := #[]) (caps := #[]) (args0 := [sV 0 R3.length, sV 1 R2.length]) (pre0 := [(0, (pB R3)), (1, (pB R2))]) (post0 := [(0, (pB R3)), (1, (pB R2))]) (pre := [(3, (pB R3)), (2, (pB R2))]) (post := [(3, (pB R3)), (2, (pB R2))]) (v0 := .int .i64 1) (v := .int .i64 1) [3, 2] (by kernel_rfl) (by kernel_rfl) (by kernel_rfl) (by kernel_rfl) (nrm1_ok R2 R3 zR2.1 zR3.1 zR2.2 zR3.2 o3) (.cons rS (.cons rS .nil)) ⟨rfl, bP, rfl, bP, trivial⟩ (by kernel_rfl) (by kernel_rfl) (by kernel_rfl) ⟨rfl, bP, rfl, bP, trivial⟩ rF) <|
    .a 2 4 <| .nil _ _) ?_
  refine aw_fl 8059 ?_
  refine aw_ex 2 ?_
  refine then_exit ?_
  refine then_exit ?_
  refine block_exit ?_
  refine block_normal ?_
  refine then_normal ?_
  refine aw_p1 (
    .a 3 4 <| .nil _ _) ?_
  refine then_normal ?_
  refine al_round ?_
  refine aw_sq 30 31 ?_
  refine aw_p 61 (
    .a 3 4 <| .nil _ _) ?_
  refine aw_fl 123 ?_
  refine aw_ex 0 ?_
  refine then_exit ?_
  refine then_exit ?_
  refine block_exit ?_
  exact en_normal [] (by kernel_rfl)
theorem pdq_3 (R1 R2 R3 : List (Int × Int)) (zR1 : 1 ≤ R1.length ∧ R1.length ≤ 200) (zR2 : 1 ≤ R2.length ∧ R2.length ≤ 200) (zR3 : 1 ≤ R3.length ∧ R3.length ≤ 200) (o2 : Sp.pcmp (R2.getD 0 (0, 0)).1 (R2.getD 0 (0, 0)).2 (R1.getD 0 (0, 0)).1 (R1.getD 0 (0, 0)).2 = 1) (o3 : Sp.pcmp (R3.getD 0 (0, 0)).1 (R3.getD 0 (0, 0)).2 (R2.getD 0 (0, 0)).1 (R2.getD 0 (0, 0)).2 = 1) :
    AC Try.prog 104 4 ([sV 0 3, .int .i64 0, .int .i64 3, .int .i64 2, .func (.func 66) #[] #[]]) [(0, ⟨[sV 1 R1.length, sV 2 R2.length, sV 3 R3.length], 30, true, 1⟩), (1, (pB R1)), (2, (pB R2)), (3, (pB R3))] (.tuple #[]) [(0, ⟨[sV 1 R1.length, sV 2 R2.length, sV 3 R3.length], 30, true, 1⟩), (1, (pB R1)), (2, (pB R2)), (3, (pB R3))] := by
  refine ac_in Try.func104 (fun w0 W pin => ?_)
  refine aw_p 3 (
    .a 1 4 <| .nil _ _) ?_
  refine aw_p 7 (
    .a 1 4 <| .nil _ _) ?_
  refine aw_bl 0 15 ?_
  refine aw_lp 31 ?_
  refine al_round ?_
  refine aw_bl 1 63 ?_
  refine aw_p 127 (
    .a 4 4 <| .nil _ _) ?_
  refine aw_sq 254 255 ?_
  refine aw_p 509 (
    .a 2 4 <| .nil _ _) ?_
  refine aw_tr 1018 ?_
  refine aw_p 2037 (
    .a 4 4 <|
    .p (cS #[.tmp 26, .tmp 27, .tmp 28, .tmp 29] #[24, 3, 3, 83] [sV 0 3, .int .i64 0, .int .i64 3, .func (.func 66) #[] #[]] [0, 1, 2, 3] [(0, ⟨[sV 1 R1.length, sV 2 R2.length, sV 3 R3.length], 30, true, 1⟩), (1, (pB R1)), (2, (pB R2)), (3, (pB R3))] (.tuple #[]) (ins_3 R1 R2 R3 zR1 zR2 zR3 o2 o3) (.cons rS (.cons rF (.cons rF (.cons rF .nil)))) ⟨rfl, ⟨rfl, rfl, rfl, (.cons rS (.cons rS (.cons rS .nil)))⟩, rfl, bP, rfl, bP, rfl, bP, trivial⟩ rF) <| .nil _ _) ?_
  refine aw_rt ?_
  refine then_ret ?_
  refine block_ret ?_
  refine then_ret ?_
  refine block_ret ?_
  exact en_ret [] (by kernel_rfl)
theorem auy_5  :
    AC Try.prog 134 0 ([.int .u64 3]) [] (.int .i64 2) [] := by
  refine ac_in Try.func134 (fun w0 W pin => ?_)
  refine aw_p 3 (
    .a 1 1 <| .nil _ _) ?_
  refine aw_sq 6 7 ?_
  refine aw_p 13 (
    .a 2 1 <| .nil _ _) ?_
  refine aw_fl 27 ?_
  refine aw_sk ?_
  refine then_normal ?_
  refine aw_sq 14 15 ?_
  refine aw_p 29 (
    .a 2 1 <| .nil _ _) ?_
  refine aw_fl 59 ?_
  refine aw_sk ?_
  refine then_normal ?_
  refine aw_sq 30 31 ?_
  refine aw_p 61 (
    .a 2 1 <| .nil _ _) ?_
  refine aw_fl 123 ?_
  refine aw_sk ?_
  refine then_normal ?_
  refine aw_p 63 (
    .a 3 1 <|
    .p (does_val (v' := .int .u8 2) (does_ixs (s := (ByteArray.mk #[0, 1, 2, 2, 3, 3, 3, 3, 4, 4, 4, 4, 4, 4, 4, 4, 5, 5, 5, 5, 5, 5, 5, 5, 5, 5, 5, 5, 5, 5, 5, 5, 6, 6, 6, 6, 6, 6, 6, 6, 6, 6, 6, 6, 6, 6, 6, 6, 6, 6, 6, 6, 6, 6, 6, 6, 6, 6, 6, 6, 6, 6, 6, 6, 7, 7, 7, 7, 7, 7, 7, 7, 7, 7, 7, 7, 7, 7, 7, 7, 7, 7, 7, 7, 7, 7, 7, 7, 7, 7, 7, 7, 7, 7, 7, 7, 7, 7, 7, 7, 7, 7, 7, 7, 7, 7, 7, 7, 7, 7, 7, 7, 7, 7, 7, 7, 7, 7, 7, 7, 7, 7, 7, 7, 7, 7, 7, 7, 8, 8, 8, 8, 8, 8, 8, 8, 8, 8, 8, 8, 8, 8, 8, 8, 8, 8, 8, 8, 8, 8, 8, 8, 8, 8, 8, 8, 8, 8, 8, 8, 8, 8, 8, 8, 8, 8, 8, 8, 8, 8, 8, 8, 8, 8, 8, 8, 8, 8, 8, 8, 8, 8, 8, 8, 8, 8, 8, 8, 8, 8, 8, 8, 8, 8, 8, 8, 8, 8, 8, 8, 8, 8, 8, 8, 8, 8, 8, 8, 8, 8, 8, 8, 8, 8, 8, 8, 8, 8, 8, 8, 8, 8, 8, 8, 8, 8, 8, 8, 8, 8, 8, 8, 8, 8, 8, 8, 8, 8, 8, 8, 8, 8, 8, 8, 8, 8, 8, 8, 8, 8, 8, 8, 8, 8, 8, 8])) (j := 3) (b := (2 : UInt8)) (by decide) (by kernel_rfl)) (by kernel_rfl)) <|
    .a 3 1 <| .nil _ _) ?_
  refine aw_rt ?_
  exact en_ret [.int .i64 2] (by kernel_rfl)
theorem auy_6  :
    AC Try.prog 105 0 ([.int .u64 3]) [] (.int .i64 2) [] := by
  refine ac_in Try.func105 (fun w0 W pin => ?_)
  refine aw_p 3 (
    .a 1 1 <| .nil _ _) ?_
  refine aw_sq 6 7 ?_
  refine aw_fl 13 ?_
  refine aw_sk ?_
  refine then_normal ?_
  refine aw_p 15 (
    .a 1 1 <| .p (does_c (auy_5)) <| .a 1 1 <| .nil _ _) ?_
  refine aw_rt ?_
  exact en_ret [.int .i64 2] (by kernel_rfl)
theorem srt_3 (R1 R2 R3 : List (Int × Int)) (zR1 : 1 ≤ R1.length ∧ R1.length ≤ 200) (zR2 : 1 ≤ R2.length ∧ R2.length ≤ 200) (zR3 : 1 ≤ R3.length ∧ R3.length ≤ 200) (o2 : Sp.pcmp (R2.getD 0 (0, 0)).1 (R2.getD 0 (0, 0)).2 (R1.getD 0 (0, 0)).1 (R1.getD 0 (0, 0)).2 = 1) (o3 : Sp.pcmp (R3.getD 0 (0, 0)).1 (R3.getD 0 (0, 0)).2 (R2.getD 0 (0, 0)).1 (R2.getD 0 (0, 0)).2 = 1) :
    AC Try.prog 65 4 ([sV 0 3, .func (.func 66) #[] #[]]) [(0, ⟨[sV 1 R1.length, sV 2 R2.length, sV 3 R3.length], 30, true, 1⟩), (1, (pB R1)), (2, (pB R2)), (3, (pB R3))] (.tuple #[]) [(0, ⟨[sV 1 R1.length, sV 2 R2.length, sV 3 R3.length], 30, true, 1⟩), (1, (pB R1)), (2, (pB R2)), (3, (pB R3))] := by
  refine ac_in Try.func65 (fun w0 W pin => ?_)
  refine aw_p 3 (
    .a 3 4 <| .nil _ _) ?_
  refine aw_p1 (
    .a 4 4 <| .p (does_c (auy_6)) <| .a 1 4 <|
    .p (cS #[.tmp 7, .const (.int .i64 0), .tmp 8, .tmp 11, .tmp 12] #[24, 3, 3, 3, 83] [sV 0 3, .int .i64 0, .int .i64 3, .int .i64 2, .func (.func 66) #[] #[]] [0, 1, 2, 3] [(0, ⟨[sV 1 R1.length, sV 2 R2.length, sV 3 R3.length], 30, true, 1⟩), (1, (pB R1)), (2, (pB R2)), (3, (pB R3))] (.tuple #[]) (pdq_3 R1 R2 R3 zR1 zR2 zR3 o2 o3) (.cons rS (.cons rF (.cons rF (.cons rF (.cons rF .nil))))) ⟨rfl, ⟨rfl, rfl, rfl, (.cons rS (.cons rS (.cons rS .nil)))⟩, rfl, bP, rfl, bP, rfl, bP, trivial⟩ rF) <| .nil _ _) ?_
  exact en_normal [] (by kernel_rfl)
end Go.Proofs.Ytndkhgfecnbmnaa.Am

namespace Go.Proofs.Ytndkhgfecnbmnaa.Am
open Go Go.Proofs
set_option maxRecDepth 100000
set_option maxHeartbeats 4000000
set_option linter.unusedVariables false
set_option linter.unusedSimpArgs false
theorem anorm_n1 (x1 y1 r1 : Int) (s1 : 1 ≤ r1) (u1 : r1 ≤ 20) (v1 : -40 ≤ x1 - r1 ∧ x1 + r1 ≤ 40) (w1 : -40 ≤ y1 - r1 ∧ y1 + r1 ≤ 40) (c1 : Sp.chkF (Sp.sqr x1 y1 r1) = 0)  :
    AC Try.prog 22 2 ([sV 0 1]) [(0, ⟨[sV 1 4], 30, true, 1⟩), (1, (pB (Sp.sqr x1 y1 r1)))] (sV 2 1) [(0, ⟨[sV 1 4], 30, true, 1⟩), (1, (pB (Sp.sqr x1 y1 r1))), (2, ⟨[sV 3 4], 30, true, 1⟩), (3, (pB (Sp.sqr x1 y1 r1)))] := by
  refine ac_in Try.func22 (fun w0 W pin => ?_)
  refine aw_p 3 (
    .a 1 2 <| .nil _ _) ?_
  refine aw_p 7 (
    .a 1 2 <| .nil _ _) ?_
  refine aw_sq 14 15 ?_
  refine aw_p 29 (
    .a 1 2 <|
    .p (cF #[.tmp 7] #[25] [sV 0 1] 1 [0, 1, 2] [(0, ⟨[sV 1 4], 30, true, 1⟩), (1, (pB (Sp.sqr x1 y1 r1)))] [(0, ⟨[sV 1 4], 30, true, 1⟩), (1, (pB (Sp.sqr x1 y1 r1))), (2, ⟨[.int .i64 0], 3, true, 1⟩)] (sV 2 1) (adepth_n1 (Sp.sqr x1 y1 r1) ⟨by simp [Sp.sqr, Sp.hol], by simp [Sp.sqr, Sp.hol]⟩ (Sp.few_sqr (m := 1000) (by omega) (by omega) (by omega)).1 c1) (.cons rS .nil) ⟨rfl, ⟨rfl, rfl, rfl, (.cons rS .nil)⟩, rfl, bP, trivial⟩ ⟨rfl, ⟨rfl, rfl, rfl, (.cons rS .nil)⟩, rfl, bP, rfl, ⟨rfl, rfl, rfl, (.flats (by kernel_rfl))⟩, trivial⟩ rS) <|
    .a 2 3 <| .nil _ _) ?_
  refine aw_bl 0 59 ?_
  refine aw_lp 119 ?_
  refine al_round ?_
  refine aw_p 239 (
    .a 1 3 <| .nil _ _) ?_
  refine aw_sq 478 479 ?_
  refine aw_tr 956 ?_
  refine aw_sk ?_
  refine then_normal ?_
  refine aw_sq 958 959 ?_
  refine aw_bl 1 1917 ?_
  refine aw_p 3835 (
    .a 5 3 <| .nil _ _) ?_
  refine aw_p 7671 (
    .a 4 3 <|
    .p (cF #[.tmp 18] #[30] [sV 1 4] 1 [1, 3] [(1, (pB (Sp.sqr x1 y1 r1)))] [(1, (pB (Sp.sqr x1 y1 r1))), (3, (pB (Sp.sqr x1 y1 r1)))] (sV 3 4) (norm_n (Sp.sqr x1 y1 r1) (Sp.sqr x1 y1 r1) 0 4 (by simp [Sp.sqr, Sp.hol]) (by decide) (by decide) (by decide) (Sp.chk_diff c1).2 (Sp.sq_least s1).1 (Sp.sq_norm s1 u1 v1 w1).1) (.cons rS .nil) ⟨rfl, bP, trivial⟩ ⟨rfl, bP, rfl, bP, trivial⟩ rS) <|
    .a 1 4 <| .nil _ _) ?_
  refine aw_sq 15342 15343 ?_
  refine aw_p 30685 (
    .a 3 4 <| .nil _ _) ?_
  refine aw_fl 61371 ?_
  refine aw_sk ?_
  refine then_normal ?_
  refine aw_p1 (
    .a 3 4 <| .p (does_ap 5) <| .a 1 6 <| .nil _ _) ?_
  refine block_normal ?_
  refine then_normal ?_
  refine aw_p1 (
    .a 2 6 <| .nil _ _) ?_
  refine then_normal ?_
  refine al_round ?_
  refine aw_p 239 (
    .a 1 6 <| .nil _ _) ?_
  refine aw_sq 478 479 ?_
  refine aw_fl 957 ?_
  refine aw_ex 0 ?_
  refine then_exit ?_
  refine then_exit ?_
  refine block_exit ?_
  refine then_normal ?_
  refine aw_p 31 (
    .a 1 6 <|
    .p (cS #[.tmp 31, .func 66] #[25, 83] [sV 5 1, .func (.func 66) #[] #[]] [5, 3] [(5, ⟨[sV 3 4], 30, true, 1⟩), (3, (pB (Sp.sqr x1 y1 r1)))] (.tuple #[]) (srt_1 (Sp.sqr x1 y1 r1) ⟨by simp [Sp.sqr, Sp.hol], by simp [Sp.sqr, Sp.hol]⟩) (.cons rS (.cons rF .nil)) ⟨rfl, ⟨rfl, rfl, rfl, (.cons rS .nil)⟩, rfl, bP, trivial⟩ rF) <| .nil _ _) ?_
  refine aw_p 63 (
    .a 2 6 <| .nil _ _) ?_
  refine aw_r [(2, 5)] [(2, sV 5 1)] [(0, ⟨[sV 1 4], 30, true, 1⟩), (1, (pB (Sp.sqr x1 y1 r1))), (5, ⟨[sV 3 4], 30, true, 1⟩), (3, (pB (Sp.sqr x1 y1 r1)))] [(2, sV 2 1)] [(0, ⟨[sV 1 4], 30, true, 1⟩), (1, (pB (Sp.sqr x1 y1 r1))), (2, ⟨[sV 3 4], 30, true, 1⟩), (3, (pB (Sp.sqr x1 y1 r1)))] ?_ ⟨rfl, (rK rfl), trivial⟩ ⟨rfl, ⟨rfl, rfl, rfl, (.cons (rK rfl) .nil)⟩, rfl, ⟨rfl, rfl, rfl, (.flats (flats_pair _))⟩, rfl, ⟨rfl, rfl, rfl, (.cons (rK rfl) .nil)⟩, rfl, ⟨rfl, rfl, rfl, (.flats (flats_pair _))⟩, trivial⟩
  refine aw_rt ?_
  exact en_ret [sV 2 1] (by kernel_rfl)
end Go.Proofs.Ytndkhgfecnbmnaa.Am

namespace Go.Proofs.Ytndkhgfecnbmnaa.Am
open Go Go.Proofs
set_option maxRecDepth 100000
set_option maxHeartbeats 4000000
set_option linter.unusedVariables false
set_option linter.unusedSimpArgs false
theorem anorm_n2 (x1 y1 r1 x2 y2 r2 : Int) (s1 : 1 ≤ r1) (u1 : r1 ≤ 20) (v1 : -40 ≤ x1 - r1 ∧ x1 + r1 ≤ 40) (w1 : -40 ≤ y1 - r1 ∧ y1 + r1 ≤ 40) (s2 : 1 ≤ r2) (u2 : r2 ≤ 20) (v2 : -40 ≤ x2 - r2 ∧ x2 + r2 ≤ 40) (w2 : -40 ≤ y2 - r2 ∧ y2 + r2 ≤ 40) (c1 : Sp.chkF (Sp.sqr x1 y1 r1) = 0) (c2 : Sp.chkF (Sp.hol x2 y2 r2) = 0) (F21 : Sp.Fit (Sp.hol x2 y2 r2) (Sp.sqr x1 y1 r1) 1 (-1)) (o2 : Sp.pcmp ((Sp.hol x2 y2 r2).getD 0 (0, 0)).1 ((Sp.hol x2 y2 r2).getD 0 (0, 0)).2 ((Sp.sqr x1 y1 r1).getD 0 (0, 0)).1 ((Sp.sqr x1 y1 r1).getD 0 (0, 0)).2 = 1) :
    AC Try.prog 22 3 ([sV 0 2]) [(0, ⟨[sV 1 4, sV 2 4], 30, true, 1⟩), (1, (pB (Sp.sqr x1 y1 r1))), (2, (pB (Sp.hol x2 y2 r2)))] (sV 3 2) [(0, ⟨[sV 1 4, sV 2 4], 30, true, 1⟩), (1, (pB (Sp.sqr x1 y1 r1))), (2, (pB (Sp.hol x2 y2 r2))), (3, ⟨[sV 4 4, sV 5 4], 30, true, 1⟩), (4, (pB (Sp.sqr x1 y1 r1))), (5, (pB (Sp.hol x2 y2 r2)))] := by
  refine ac_in Try.func22 (fun w0 W pin => ?_)
  refine aw_p 3 (
    .a 1 3 <| .nil _ _) ?_
  refine aw_p 7 (
    .a 1 3 <| .nil _ _) ?_
  refine aw_sq 14 15 ?_
  refine aw_p 29 (
    .a 1 3 <|
    .p (cF #[.tmp 7] #[25] [sV 0 2] 1 [0, 1, 2, 3] [(0, ⟨[sV 1 4, sV 2 4], 30, true, 1⟩), (1, (pB (Sp.sqr x1 y1 r1))), (2, (pB (Sp.hol x2 y2 r2)))] [(0, ⟨[sV 1 4, sV 2 4], 30, true, 1⟩), (1, (pB (Sp.sqr x1 y1 r1))), (2, (pB (Sp.hol x2 y2 r2))), (3, ⟨[.int .i64 0, .int .i64 1], 3, true, 1⟩)] (sV 3 2) (adepth_n2 (Sp.sqr x1 y1 r1) (Sp.hol x2 y2 r2) ⟨by simp [Sp.sqr, Sp.hol], by simp [Sp.sqr, Sp.hol]⟩ (Sp.few_sqr (m := 1000) (by omega) (by omega) (by omega)).1 ⟨by simp [Sp.sqr, Sp.hol], by simp [Sp.sqr, Sp.hol]⟩ (Sp.few_sqr (m := 1000) (by omega) (by omega) (by omega)).2 c1 c2 F21) (.cons rS .nil) ⟨rfl, ⟨rfl, rfl, rfl, (.cons rS (.cons rS .nil))⟩, rfl, bP, rfl, bP, trivial⟩ ⟨rfl, ⟨rfl, rfl, rfl, (.cons rS (.cons rS .nil))⟩, rfl, bP, rfl, bP, rfl, ⟨rfl, rfl, rfl, (.flats (by kernel_rfl))⟩, trivial⟩ rS) <|
    .a 2 4 <| .nil _ _) ?_
  refine aw_bl 0 59 ?_
  refine aw_lp 119 ?_
  refine al_round ?_
  refine aw_p 239 (
    .a 1 4 <| .nil _ _) ?_
  refine aw_sq 478 479 ?_
  refine aw_tr 956 ?_
  refine aw_sk ?_
  refine then_normal ?_
  refine aw_sq 958 959 ?_
  refine aw_bl 1 1917 ?_
  refine aw_p 3835 (
    .a 5 4 <| .nil _ _) ?_
  refine aw_p 7671 (
    .a 4 4 <|
    .p (cF #[.tmp 18] #[30] [sV 1 4] 1 [1, 4] [(1, (pB (Sp.sqr x1 y1 r1)))] [(1, (pB (Sp.sqr x1 y1 r1))), (4, (pB (Sp.sqr x1 y1 r1)))] (sV 4 4) (norm_n (Sp.sqr x1 y1 r1) (Sp.sqr x1 y1 r1) 0 4 (by simp [Sp.sqr, Sp.hol]) (by decide) (by decide) (by decide) (Sp.chk_diff c1).2 (Sp.sq_least s1).1 (Sp.sq_norm s1 u1 v1 w1).1) (.cons rS .nil) ⟨rfl, bP, trivial⟩ ⟨rfl, bP, rfl, bP, trivial⟩ rS) <|
    .a 1 5 <| .nil _ _) ?_
  refine aw_sq 15342 15343 ?_
  refine aw_p 30685 (
    .a 3 5 <| .nil _ _) ?_
  refine aw_fl 61371 ?_
  refine aw_sk ?_
  refine then_normal ?_
  refine aw_p1 (
    .a 3 5 <| .p (does_ap 6) <| .a 1 7 <| .nil _ _) ?_
  refine block_normal ?_
  refine then_normal ?_
  refine aw_p1 (
    .a 2 7 <| .nil _ _) ?_
  refine then_normal ?_
  refine al_round ?_
  refine aw_p 239 (
    .a 1 7 <| .nil _ _) ?_
  refine aw_sq 478 479 ?_
  refine aw_tr 956 ?_
  refine aw_sk ?_
  refine then_normal ?_
  refine aw_sq 958 959 ?_
  refine aw_bl 1 1917 ?_
  refine aw_p 3835 (
    .a 5 7 <| .nil _ _) ?_
  refine aw_p 7671 (
    .a 4 7 <|
    .p (cF #[.tmp 18] #[30] [sV 2 4] 1 [2, 7] [(2, (pB (Sp.hol x2 y2 r2)))] [(2, (pB (Sp.hol x2 y2 r2))), (7, (pB (Sp.sqr x2 y2 r2)))] (sV 7 4) (norm_n (Sp.hol x2 y2 r2) (Sp.sqr x2 y2 r2) 0 4 (by simp [Sp.sqr, Sp.hol]) (by decide) (by decide) (by decide) (Sp.chk_diff c2).2 (Sp.sq_least s2).2 (Sp.sq_norm s2 u2 v2 w2).2) (.cons rS .nil) ⟨rfl, bP, trivial⟩ ⟨rfl, bP, rfl, bP, trivial⟩ rS) <|
    .a 1 8 <| .nil _ _) ?_
  refine aw_sq 15342 15343 ?_
  refine aw_p 30685 (
    .a 3 8 <| .nil _ _) ?_
  refine aw_tr 61370 ?_
  refine aw_p1 (
    .a 1 8 <|
    .p (does_val (v' := .slice (some ⟨7, 2, none⟩) 3 0) (does_slice (t := 30) (x := .tmp 23) (lo := some (.const (.int .i64 1))) (hi := none) (k := 7) (off := 0) (n := 4) (c := 0) (z := 2) (l := 1) (h := ((4 : Nat) : Int)) (m := 3) (b := (pB (Sp.sqr x2 y2 r2))) (by kernel_rfl) (by kernel_rfl) (by kernel_rfl) (by kernel_rfl) (by kernel_rfl) (by kernel_rfl) (by kernel_rfl) (by kernel_rfl) (by decide) (by decide) (by decide) (by decide)) (by kernel_rfl)) <|
    .p (cF (m := 1) (args0 := [.slice (some ⟨0, 2, none⟩) 3 0]) (pre0 := [(0, (pB (Sp.sqr x2 y2 r2)))]) (post0 := [(0, (pB (Sp.hol x2 y2 r2)))]) (v0 := .tuple #[]) #[.tmp 24] #[30] [.slice (some ⟨7, 2, none⟩) 3 0] 0 [7] [(7, (pB (Sp.sqr x2 y2 r2)))] [(7, (pB (Sp.hol x2 y2 r2)))] (.tuple #[]) (revtail_ok x2 y2 r2) (.cons rS .nil) ⟨rfl, bP, trivial⟩ ⟨rfl, bP, trivial⟩ rF) <| .nil _ _) ?_
  refine then_normal ?_
  refine aw_p1 (
    .a 3 8 <| .p (does_ap 9) <| .a 1 10 <| .nil _ _) ?_
  refine block_normal ?_
  refine then_normal ?_
  refine aw_p1 (
    .a 2 10 <| .nil _ _) ?_
  refine then_normal ?_
  refine al_round ?_
  refine aw_p 239 (
    .a 1 10 <| .nil _ _) ?_
  refine aw_sq 478 479 ?_
  refine aw_fl 957 ?_
  refine aw_ex 0 ?_
  refine then_exit ?_
  refine then_exit ?_
  refine block_exit ?_
  refine then_normal ?_
  refine aw_p 31 (
    .a 1 10 <|
    .p (cS #[.tmp 31, .func 66] #[25, 83] [sV 9 2, .func (.func 66) #[] #[]] [9, 4, 7] [(9, ⟨[sV 4 4, sV 7 4], 30, true, 1⟩), (4, (pB (Sp.sqr x1 y1 r1))), (7, (pB (Sp.hol x2 y2 r2)))] (.tuple #[]) (srt_2 (Sp.sqr x1 y1 r1) (Sp.hol x2 y2 r2) ⟨by simp [Sp.sqr, Sp.hol], by simp [Sp.sqr, Sp.hol]⟩ ⟨by simp [Sp.sqr, Sp.hol], by simp [Sp.sqr, Sp.hol]⟩ o2) (.cons rS (.cons rF .nil)) ⟨rfl, ⟨rfl, rfl, rfl, (.cons rS (.cons rS .nil))⟩, rfl, bP, rfl, bP, trivial⟩ rF) <| .nil _ _) ?_
  refine aw_p 63 (
    .a 2 10 <| .nil _ _) ?_
  refine aw_r [(3, 9), (5, 7)] [(2, sV 9 2)] [(0, ⟨[sV 1 4, sV 2 4], 30, true, 1⟩), (1, (pB (Sp.sqr x1 y1 r1))), (2, (pB (Sp.hol x2 y2 r2))), (9, ⟨[sV 4 4, sV 7 4], 30, true, 1⟩), (4, (pB (Sp.sqr x1 y1 r1))), (7, (pB (Sp.hol x2 y2 r2)))] [(2, sV 3 2)] [(0, ⟨[sV 1 4, sV 2 4], 30, true, 1⟩), (1, (pB (Sp.sqr x1 y1 r1))), (2, (pB (Sp.hol x2 y2 r2))), (3, ⟨[sV 4 4, sV 5 4], 30, true, 1⟩), (4, (pB (Sp.sqr x1 y1 r1))), (5, (pB (Sp.hol x2 y2 r2)))] ?_ ⟨rfl, (rK rfl), trivial⟩ ⟨rfl, ⟨rfl, rfl, rfl, (.cons (rK rfl) (.cons (rK rfl) .nil))⟩, rfl, ⟨rfl, rfl, rfl, (.flats (flats_pair _))⟩, rfl, ⟨rfl, rfl, rfl, (.flats (flats_pair _))⟩, rfl, ⟨rfl, rfl, rfl, (.cons (rK rfl) (.cons (rK rfl) .nil))⟩, rfl, ⟨rfl, rfl, rfl, (.flats (flats_pair _))⟩, rfl, ⟨rfl, rfl, rfl, (.flats (flats_pair _))⟩, trivial⟩
  refine aw_rt ?_
  exact en_ret [sV 3 2] (by kernel_rfl)
end Go.Proofs.Ytndkhgfecnbmnaa.Am
