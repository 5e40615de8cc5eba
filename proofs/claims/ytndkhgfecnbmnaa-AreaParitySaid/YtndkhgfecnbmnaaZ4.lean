/-
  The walks of the check of an area.
-/
import Derived.Test.YtndkhgfecnbmnaaProg
import Derived.Test.YtndkhgfecnbmnaaAm16
import Derived.Test.YtndkhgfecnbmnaaZ3
import Derived.Test.YtndkhgfecnbmnaaRk3
import Derived.Test.YtndkhgfecnbmnaaRh
namespace Go.Proofs.Ytndkhgfecnbmnaa.Am
open Go Go.Proofs
set_option maxRecDepth 100000
set_option maxHeartbeats 4000000
set_option linter.unusedVariables false
set_option linter.unusedSimpArgs false

theorem acheck_n1 (R1 : List (Int × Int)) (zR1 : 1 ≤ R1.length ∧ R1.length ≤ 200) (fR1 : Sp.Few 1000 R1) (cR1 : Sp.chkF R1 = 0) :
    AC Try.prog 18 2 ([.slice (some ⟨0, 0, none⟩) 1 0]) [(0, ⟨[.slice (some ⟨1, 0, none⟩) R1.length 0], 30, true, 1⟩), (1, ⟨(R1.flatMap ptc), 28, true, 2⟩)] (.int .i64 0) [(0, ⟨[.slice (some ⟨1, 0, none⟩) R1.length 0], 30, true, 1⟩), (1, ⟨(R1.flatMap ptc), 28, true, 2⟩)] := by
  refine ac_in Try.func18 (fun w0 W pin => ?_)
  refine aw_p 3 (
    .a 1 2 <| .nil _ _) ?_
  refine aw_sq 6 7 ?_
  refine aw_p 13 (
    .a 3 2 <| .nil _ _) ?_
  refine aw_fl 27 ?_
  refine aw_sk ?_
  refine then_normal ?_
  refine aw_sq 14 15 ?_
  refine aw_p 29 (
    .a 3 2 <| .nil _ _) ?_
  refine aw_bl 0 59 ?_
  refine aw_lp 119 ?_
  refine al_round ?_
  refine aw_p 239 (
    .a 1 2 <| .nil _ _) ?_
  refine aw_sq 478 479 ?_
  refine aw_tr 956 ?_
  refine aw_sk ?_
  refine then_normal ?_
  refine aw_sq 958 959 ?_
  refine aw_bl 1 1917 ?_
  refine aw_p 3835 (
    .a 3 2 <| .nil _ _) ?_
  refine aw_p 7671 (
    .a 1 2 <|
    .p (does_callB (x := .func 38) (ars := #[.tmp 19]) (ats := #[30]) (g := 38) (vs := [.slice (some ⟨1, 0, none⟩) R1.length 0]) (m := 1) (r := 0) (firsts := #[]) (caps := #[]) (args0 := [.slice (some ⟨0, 0, none⟩) R1.length 0]) (pre0 := [(0, ⟨(R1.flatMap ptc), 28, true, 2⟩)]) (post0 := [(0, ⟨(R1.flatMap ptc), 28, true, 2⟩)]) (pre := [(1, ⟨(R1.flatMap ptc), 28, true, 2⟩)]) (post := [(1, ⟨(R1.flatMap ptc), 28, true, 2⟩)]) (v0 := .int .i64 0) (v := .int .i64 0) [1] (by kernel_rfl) (by kernel_rfl) (by kernel_rfl) (by kernel_rfl) ((by have h := chkn_own R1 R1.length rfl (by omega); rw [cR1] at h; exact h)) (.cons (.slice _ _ _ _ _ (by decide)) .nil) ⟨rfl, ⟨rfl, rfl, rfl, (.flats (flats_pair _))⟩, trivial⟩ (by kernel_rfl) (by kernel_rfl) (by kernel_rfl) ⟨rfl, ⟨rfl, rfl, rfl, (.flats (flats_pair _))⟩, trivial⟩ (.flatB (by kernel_rfl))) <|
    .a 1 2 <| .nil _ _) ?_
  refine aw_p 15343 (
    .a 2 2 <| .nil _ _) ?_
  refine aw_fl 30687 ?_
  refine aw_sk ?_
  refine block_normal ?_
  refine then_normal ?_
  refine aw_p1 (
    .a 2 2 <| .nil _ _) ?_
  refine then_normal ?_
  refine al_round ?_
  refine aw_p 239 (
    .a 1 2 <| .nil _ _) ?_
  refine aw_sq 478 479 ?_
  refine aw_fl 957 ?_
  refine aw_ex 0 ?_
  refine then_exit ?_
  refine then_exit ?_
  refine block_exit ?_
  refine then_normal ?_
  refine aw_sq 30 31 ?_
  refine aw_p 61 (
    .a 3 2 <| .nil _ _) ?_
  refine aw_bl 2 123 ?_
  refine aw_lp 247 ?_
  refine al_round ?_
  refine aw_p 495 (
    .a 1 2 <| .nil _ _) ?_
  refine aw_sq 990 991 ?_
  refine aw_tr 1980 ?_
  refine aw_sk ?_
  refine then_normal ?_
  refine aw_sq 1982 1983 ?_
  refine aw_bl 3 3965 ?_
  refine aw_p 7931 (
    .a 5 2 <| .nil _ _) ?_
  refine aw_p 15863 (
    .a 2 2 <|
    .p (does_val (v' := .slice (some ⟨0, 0, none⟩) 0 0) (does_slice (t := 25) (x := .tmp 32) (lo := none) (hi := some (.tmp 33)) (k := 0) (off := 0) (n := 1) (c := 0) (z := 1) (l := 0) (h := 0) (m := 0) (b := ⟨[.slice (some ⟨1, 0, none⟩) R1.length 0], 30, true, 1⟩) (by kernel_rfl) (by kernel_rfl) (by kernel_rfl) (by kernel_rfl) (by kernel_rfl) (by kernel_rfl) (by kernel_rfl) (by kernel_rfl) (by decide) (by decide) (by decide) (by decide)) (by kernel_rfl)) <|
    .a 2 2 <| .nil _ _) ?_
  refine aw_bl 4 31727 ?_
  refine aw_lp 63455 ?_
  refine al_round ?_
  refine aw_p 126911 (
    .a 1 2 <| .nil _ _) ?_
  refine aw_sq 253822 253823 ?_
  refine aw_fl 507645 ?_
  refine aw_ex 4 ?_
  refine then_exit ?_
  refine then_exit ?_
  refine block_exit ?_
  refine block_normal ?_
  refine then_normal ?_
  refine aw_p1 (
    .a 2 2 <| .nil _ _) ?_
  refine then_normal ?_
  refine al_round ?_
  refine aw_p 495 (
    .a 1 2 <| .nil _ _) ?_
  refine aw_sq 990 991 ?_
  refine aw_fl 1981 ?_
  refine aw_ex 2 ?_
  refine then_exit ?_
  refine then_exit ?_
  refine block_exit ?_
  refine then_normal ?_
  refine aw_p 63 (
    .a 1 2 <| .nil _ _) ?_
  refine aw_rt ?_
  exact en_ret [.int .i64 0] (by kernel_rfl)

theorem acheck_n2 (R1 R2 : List (Int × Int)) (zR1 : 1 ≤ R1.length ∧ R1.length ≤ 200) (fR1 : Sp.Few 1000 R1) (zR2 : 1 ≤ R2.length ∧ R2.length ≤ 200) (fR2 : Sp.Few 1000 R2) (cR1 : Sp.chkF R1 = 0) (cR2 : Sp.chkF R2 = 0) (F21 : Sp.Fit R2 R1 1 (-1)) :
    AC Try.prog 18 3 ([.slice (some ⟨0, 0, none⟩) 2 0]) [(0, ⟨[.slice (some ⟨1, 0, none⟩) R1.length 0, .slice (some ⟨2, 0, none⟩) R2.length 0], 30, true, 1⟩), (1, ⟨(R1.flatMap ptc), 28, true, 2⟩), (2, ⟨(R2.flatMap ptc), 28, true, 2⟩)] (.int .i64 0) [(0, ⟨[.slice (some ⟨1, 0, none⟩) R1.length 0, .slice (some ⟨2, 0, none⟩) R2.length 0], 30, true, 1⟩), (1, ⟨(R1.flatMap ptc), 28, true, 2⟩), (2, ⟨(R2.flatMap ptc), 28, true, 2⟩)] := by
  refine ac_in Try.func18 (fun w0 W pin => ?_)
  refine aw_p 3 (
    .a 1 3 <| .nil _ _) ?_
  refine aw_sq 6 7 ?_
  refine aw_p 13 (
    .a 3 3 <| .nil _ _) ?_
  refine aw_fl 27 ?_
  refine aw_sk ?_
  refine then_normal ?_
  refine aw_sq 14 15 ?_
  refine aw_p 29 (
    .a 3 3 <| .nil _ _) ?_
  refine aw_bl 0 59 ?_
  refine aw_lp 119 ?_
  refine al_round ?_
  refine aw_p 239 (
    .a 1 3 <| .nil _ _) ?_
  refine aw_sq 478 479 ?_
  refine aw_tr 956 ?_
  refine aw_sk ?_
  refine then_normal ?_
  refine aw_sq 958 959 ?_
  refine aw_bl 1 1917 ?_
  refine aw_p 3835 (
    .a 3 3 <| .nil _ _) ?_
  refine aw_p 7671 (
    .a 1 3 <|
    .p (does_callB (x := .func 38) (ars := #[.tmp 19]) (ats := #[30]) (g := 38) (vs := [.slice (some ⟨1, 0, none⟩) R1.length 0]) (m := 1) (r := 0) (firsts := #[]) (caps := #[]) (args0 := [.slice (some ⟨0, 0, none⟩) R1.length 0]) (pre0 := [(0, ⟨(R1.flatMap ptc), 28, true, 2⟩)]) (post0 := [(0, ⟨(R1.flatMap ptc), 28, true, 2⟩)]) (pre := [(1, ⟨(R1.flatMap ptc), 28, true, 2⟩)]) (post := [(1, ⟨(R1.flatMap ptc), 28, true, 2⟩)]) (v0 := .int .i64 0) (v := .int .i64 0) [1] (by kernel_rfl) (by kernel_rfl) (by kernel_rfl) (by kernel_rfl) ((by have h := chkn_own R1 R1.length rfl (by omega); rw [cR1] at h; exact h)) (.cons (.slice _ _ _ _ _ (by decide)) .nil) ⟨rfl, ⟨rfl, rfl, rfl, (.flats (flats_pair _))⟩, trivial⟩ (by kernel_rfl) (by kernel_rfl) (by kernel_rfl) ⟨rfl, ⟨rfl, rfl, rfl, (.flats (flats_pair _))⟩, trivial⟩ (.flatB (by kernel_rfl))) <|
    .a 1 3 <| .nil _ _) ?_
  refine aw_p 15343 (
    .a 2 3 <| .nil _ _) ?_
  refine aw_fl 30687 ?_
  refine aw_sk ?_
  refine block_normal ?_
  refine then_normal ?_
  refine aw_p1 (
    .a 2 3 <| .nil _ _) ?_
  refine then_normal ?_
  refine al_round ?_
  refine aw_p 239 (
    .a 1 3 <| .nil _ _) ?_
  refine aw_sq 478 479 ?_
  refine aw_tr 956 ?_
  refine aw_sk ?_
  refine then_normal ?_
  refine aw_sq 958 959 ?_
  refine aw_bl 1 1917 ?_
  refine aw_p 3835 (
    .a 3 3 <| .nil _ _) ?_
  refine aw_p 7671 (
    .a 1 3 <|
    .p (does_callB (x := .func 38) (ars := #[.tmp 19]) (ats := #[30]) (g := 38) (vs := [.slice (some ⟨2, 0, none⟩) R2.length 0]) (m := 1) (r := 0) (firsts := #[]) (caps := #[]) (args0 := [.slice (some ⟨0, 0, none⟩) R2.length 0]) (pre0 := [(0, ⟨(R2.flatMap ptc), 28, true, 2⟩)]) (post0 := [(0, ⟨(R2.flatMap ptc), 28, true, 2⟩)]) (pre := [(2, ⟨(R2.flatMap ptc), 28, true, 2⟩)]) (post := [(2, ⟨(R2.flatMap ptc), 28, true, 2⟩)]) (v0 := .int .i64 0) (v := .int .i64 0) [2] (by kernel_rfl) (by kernel_rfl) (by kernel_rfl) (by kernel_rfl) ((by have h := chkn_own R2 R2.length rfl (by omega); rw [cR2] at h; exact h)) (.cons (.slice _ _ _ _ _ (by decide)) .nil) ⟨rfl, ⟨rfl, rfl, rfl, (.flats (flats_pair _))⟩, trivial⟩ (by kernel_rfl) (by kernel_rfl) (by kernel_rfl) ⟨rfl, ⟨rfl, rfl, rfl, (.flats (flats_pair _))⟩, trivial⟩ (.flatB (by kernel_rfl))) <|
    .a 1 3 <| .nil _ _) ?_
  refine aw_p 15343 (
    .a 2 3 <| .nil _ _) ?_
  refine aw_fl 30687 ?_
  refine aw_sk ?_
  refine block_normal ?_
  refine then_normal ?_
  refine aw_p1 (
    .a 2 3 <| .nil _ _) ?_
  refine then_normal ?_
  refine al_round ?_
  refine aw_p 239 (
    .a 1 3 <| .nil _ _) ?_
  refine aw_sq 478 479 ?_
  refine aw_fl 957 ?_
  refine aw_ex 0 ?_
  refine then_exit ?_
  refine then_exit ?_
  refine block_exit ?_
  refine then_normal ?_
  refine aw_sq 30 31 ?_
  refine aw_p 61 (
    .a 3 3 <| .nil _ _) ?_
  refine aw_bl 2 123 ?_
  refine aw_lp 247 ?_
  refine al_round ?_
  refine aw_p 495 (
    .a 1 3 <| .nil _ _) ?_
  refine aw_sq 990 991 ?_
  refine aw_tr 1980 ?_
  refine aw_sk ?_
  refine then_normal ?_
  refine aw_sq 1982 1983 ?_
  refine aw_bl 3 3965 ?_
  refine aw_p 7931 (
    .a 5 3 <| .nil _ _) ?_
  refine aw_p 15863 (
    .a 2 3 <|
    .p (does_val (v' := .slice (some ⟨0, 0, none⟩) 0 0) (does_slice (t := 25) (x := .tmp 32) (lo := none) (hi := some (.tmp 33)) (k := 0) (off := 0) (n := 2) (c := 0) (z := 1) (l := 0) (h := 0) (m := 0) (b := ⟨[.slice (some ⟨1, 0, none⟩) R1.length 0, .slice (some ⟨2, 0, none⟩) R2.length 0], 30, true, 1⟩) (by kernel_rfl) (by kernel_rfl) (by kernel_rfl) (by kernel_rfl) (by kernel_rfl) (by kernel_rfl) (by kernel_rfl) (by kernel_rfl) (by decide) (by decide) (by decide) (by decide)) (by kernel_rfl)) <|
    .a 2 3 <| .nil _ _) ?_
  refine aw_bl 4 31727 ?_
  refine aw_lp 63455 ?_
  refine al_round ?_
  refine aw_p 126911 (
    .a 1 3 <| .nil _ _) ?_
  refine aw_sq 253822 253823 ?_
  refine aw_fl 507645 ?_
  refine aw_ex 4 ?_
  refine then_exit ?_
  refine then_exit ?_
  refine block_exit ?_
  refine block_normal ?_
  refine then_normal ?_
  refine aw_p1 (
    .a 2 3 <| .nil _ _) ?_
  refine then_normal ?_
  refine al_round ?_
  refine aw_p 495 (
    .a 1 3 <| .nil _ _) ?_
  refine aw_sq 990 991 ?_
  refine aw_tr 1980 ?_
  refine aw_sk ?_
  refine then_normal ?_
  refine aw_sq 1982 1983 ?_
  refine aw_bl 3 3965 ?_
  refine aw_p 7931 (
    .a 5 3 <| .nil _ _) ?_
  refine aw_p 15863 (
    .a 2 3 <|
    .p (does_val (v' := .slice (some ⟨0, 0, none⟩) 1 0) (does_slice (t := 25) (x := .tmp 32) (lo := none) (hi := some (.tmp 33)) (k := 0) (off := 0) (n := 2) (c := 0) (z := 1) (l := 0) (h := 1) (m := 1) (b := ⟨[.slice (some ⟨1, 0, none⟩) R1.length 0, .slice (some ⟨2, 0, none⟩) R2.length 0], 30, true, 1⟩) (by kernel_rfl) (by kernel_rfl) (by kernel_rfl) (by kernel_rfl) (by kernel_rfl) (by kernel_rfl) (by kernel_rfl) (by kernel_rfl) (by decide) (by decide) (by decide) (by decide)) (by kernel_rfl)) <|
    .a 2 3 <| .nil _ _) ?_
  refine aw_bl 4 31727 ?_
  refine aw_lp 63455 ?_
  refine al_round ?_
  refine aw_p 126911 (
    .a 1 3 <| .nil _ _) ?_
  refine aw_sq 253822 253823 ?_
  refine aw_tr 507644 ?_
  refine aw_sk ?_
  refine then_normal ?_
  refine aw_sq 507646 507647 ?_
  refine aw_bl 5 1015293 ?_
  refine aw_p 2030587 (
    .a 3 3 <| .nil _ _) ?_
  refine aw_p 4061175 (
    .a 2 3 <|
    .p (does_callB (x := .func 60) (ars := #[.tmp 40, .tmp 41]) (ats := #[30, 30]) (g := 60) (vs := [.slice (some ⟨2, 0, none⟩) R2.length 0, .slice (some ⟨1, 0, none⟩) R1.length 0]) (m := 2) (r := 0) (firsts := #[]) (caps := #[]) (args0 := [.slice (some ⟨0, 0, none⟩) R2.length 0, .slice (some ⟨1, 0, none⟩) R1.length 0]) (pre0 := [(0, ⟨(R2.flatMap ptc), 28, true, 2⟩), (1, ⟨(R1.flatMap ptc), 28, true, 2⟩)]) (post0 := [(0, ⟨(R2.flatMap ptc), 28, true, 2⟩), (1, ⟨(R1.flatMap ptc), 28, true, 2⟩)]) (pre := [(2, ⟨(R2.flatMap ptc), 28, true, 2⟩), (1, ⟨(R1.flatMap ptc), 28, true, 2⟩)]) (post := [(2, ⟨(R2.flatMap ptc), 28, true, 2⟩), (1, ⟨(R1.flatMap ptc), 28, true, 2⟩)]) (v0 := .bool true) (v := .bool true) [2, 1] (by kernel_rfl) (by kernel_rfl) (by kernel_rfl) (by kernel_rfl) (fits_ok R2 R1 1 (-1) zR2 fR2 zR1 fR1 F21) (.cons (.slice _ _ _ _ _ (by decide)) (.cons (.slice _ _ _ _ _ (by decide)) .nil)) ⟨rfl, ⟨rfl, rfl, rfl, (.flats (flats_pair _))⟩, rfl, ⟨rfl, rfl, rfl, (.flats (flats_pair _))⟩, trivial⟩ (by kernel_rfl) (by kernel_rfl) (by kernel_rfl) ⟨rfl, ⟨rfl, rfl, rfl, (.flats (flats_pair _))⟩, rfl, ⟨rfl, rfl, rfl, (.flats (flats_pair _))⟩, trivial⟩ (.flatB (by kernel_rfl))) <|
    .a 1 3 <| .nil _ _) ?_
  refine aw_fl 8122351 ?_
  refine aw_sk ?_
  refine block_normal ?_
  refine then_normal ?_
  refine aw_p1 (
    .a 2 3 <| .nil _ _) ?_
  refine then_normal ?_
  refine al_round ?_
  refine aw_p 126911 (
    .a 1 3 <| .nil _ _) ?_
  refine aw_sq 253822 253823 ?_
  refine aw_fl 507645 ?_
  refine aw_ex 4 ?_
  refine then_exit ?_
  refine then_exit ?_
  refine block_exit ?_
  refine block_normal ?_
  refine then_normal ?_
  refine aw_p1 (
    .a 2 3 <| .nil _ _) ?_
  refine then_normal ?_
  refine al_round ?_
  refine aw_p 495 (
    .a 1 3 <| .nil _ _) ?_
  refine aw_sq 990 991 ?_
  refine aw_fl 1981 ?_
  refine aw_ex 2 ?_
  refine then_exit ?_
  refine then_exit ?_
  refine block_exit ?_
  refine then_normal ?_
  refine aw_p 63 (
    .a 1 3 <| .nil _ _) ?_
  refine aw_rt ?_
  exact en_ret [.int .i64 0] (by kernel_rfl)

theorem acheck_n3 (R1 R2 R3 : List (Int × Int)) (zR1 : 1 ≤ R1.length ∧ R1.length ≤ 200) (fR1 : Sp.Few 1000 R1) (zR2 : 1 ≤ R2.length ∧ R2.length ≤ 200) (fR2 : Sp.Few 1000 R2) (zR3 : 1 ≤ R3.length ∧ R3.length ≤ 200) (fR3 : Sp.Few 1000 R3) (cR1 : Sp.chkF R1 = 0) (cR2 : Sp.chkF R2 = 0) (cR3 : Sp.chkF R3 = 0) (F21 : Sp.Fit R2 R1 1 (-1)) (F31 : Sp.Fit R3 R1 1 (-1)) (F32 : Sp.Fit R3 R2 1 (-1)) :
    AC Try.prog 18 4 ([.slice (some ⟨0, 0, none⟩) 3 0]) [(0, ⟨[.slice (some ⟨1, 0, none⟩) R1.length 0, .slice (some ⟨2, 0, none⟩) R2.length 0, .slice (some ⟨3, 0, none⟩) R3.length 0], 30, true, 1⟩), (1, ⟨(R1.flatMap ptc), 28, true, 2⟩), (2, ⟨(R2.flatMap ptc), 28, true, 2⟩), (3, ⟨(R3.flatMap ptc), 28, true, 2⟩)] (.int .i64 0) [(0, ⟨[.slice (some ⟨1, 0, none⟩) R1.length 0, .slice (some ⟨2, 0, none⟩) R2.length 0, .slice (some ⟨3, 0, none⟩) R3.length 0], 30, true, 1⟩), (1, ⟨(R1.flatMap ptc), 28, true, 2⟩), (2, ⟨(R2.flatMap ptc), 28, true, 2⟩), (3, ⟨(R3.flatMap ptc), 28, true, 2⟩)] := by
  refine ac_in Try.func18 (fun w0 W pin => ?_)
  refine aw_p 3 (
    .a 1 4 <| .nil _ _) ?_
  refine aw_sq 6 7 ?_
  refine aw_p 13 (
    .a 3 4 <| .nil _ _) ?_
  refine aw_fl 27 ?_
  refine aw_sk ?_
  refine then_normal ?_
  refine aw_sq 14 15 ?_
  refine aw_p 29 (
    .a 3 4 <| .nil _ _) ?_
  refine aw_bl 0 59 ?_
  refine aw_lp 119 ?_
  refine al_round ?_
  refine aw_p 239 (
    .a 1 4 <| .nil _ _) ?_
  refine aw_sq 478 479 ?_
  refine aw_tr 956 ?_
  refine aw_sk ?_
  refine then_normal ?_
  refine aw_sq 958 959 ?_
  refine aw_bl 1 1917 ?_
  refine aw_p 3835 (
    .a 3 4 <| .nil _ _) ?_
  refine aw_p 7671 (
    .a 1 4 <|
    .p (does_callB (x := .func 38) (ars := #[.tmp 19]) (ats := #[30]) (g := 38) (vs := [.slice (some ⟨1, 0, none⟩) R1.length 0]) (m := 1) (r := 0) (firsts := #[]) (caps := #[]) (args0 := [.slice (some ⟨0, 0, none⟩) R1.length 0]) (pre0 := [(0, ⟨(R1.flatMap ptc), 28, true, 2⟩)]) (post0 := [(0, ⟨(R1.flatMap ptc), 28, true, 2⟩)]) (pre := [(1, ⟨(R1.flatMap ptc), 28, true, 2⟩)]) (post := [(1, ⟨(R1.flatMap ptc), 28, true, 2⟩)]) (v0 := .int .i64 0) (v := .int .i64 0) [1] (by kernel_rfl) (by kernel_rfl) (by kernel_rfl) (by kernel_rfl) ((by have h := chkn_own R1 R1.length rfl (by omega); rw [cR1] at h; exact h)) (.cons (.slice _ _ _ _ _ (by decide)) .nil) ⟨rfl, ⟨rfl, rfl, rfl, (.flats (flats_pair _))⟩, trivial⟩ (by kernel_rfl) (by kernel_rfl) (by kernel_rfl) ⟨rfl, ⟨rfl, rfl, rfl, (.flats (flats_pair _))⟩, trivial⟩ (.flatB (by kernel_rfl))) <|
    .a 1 4 <| .nil _ _) ?_
  refine aw_p 15343 (
    .a 2 4 <| .nil _ _) ?_
  refine aw_fl 30687 ?_
  refine aw_sk ?_
  refine block_normal ?_
  refine then_normal ?_
  refine aw_p1 (
    .a 2 4 <| .nil _ _) ?_
  refine then_normal ?_
  refine al_round ?_
  refine aw_p 239 (
    .a 1 4 <| .nil _ _) ?_
  refine aw_sq 478 479 ?_
  refine aw_tr 956 ?_
  refine aw_sk ?_
  refine then_normal ?_
  refine aw_sq 958 959 ?_
  refine aw_bl 1 1917 ?_
  refine aw_p 3835 (
    .a 3 4 <| .nil _ _) ?_
  refine aw_p 7671 (
    .a 1 4 <|
    .p (does_callB (x := .func 38) (ars := #[.tmp 19]) (ats := #[30]) (g := 38) (vs := [.slice (some ⟨2, 0, none⟩) R2.length 0]) (m := 1) (r := 0) (firsts := #[]) (caps := #[]) (args0 := [.slice (some ⟨0, 0, none⟩) R2.length 0]) (pre0 := [(0, ⟨(R2.flatMap ptc), 28, true, 2⟩)]) (post0 := [(0, ⟨(R2.flatMap ptc), 28, true, 2⟩)]) (pre := [(2, ⟨(R2.flatMap ptc), 28, true, 2⟩)]) (post := [(2, ⟨(R2.flatMap ptc), 28, true, 2⟩)]) (v0 := .int .i64 0) (v := .int .i64 0) [2] (by kernel_rfl) (by kernel_rfl) (by kernel_rfl) (by kernel_rfl) ((by have h := chkn_own R2 R2.length rfl (by omega); rw [cR2] at h; exact h)) (.cons (.slice _ _ _ _ _ (by decide)) .nil) ⟨rfl, ⟨rfl, rfl, rfl, (.flats (flats_pair _))⟩, trivial⟩ (by kernel_rfl) (by kernel_rfl) (by kernel_rfl) ⟨rfl, ⟨rfl, rfl, rfl, (.flats (flats_pair _))⟩, trivial⟩ (.flatB (by kernel_rfl))) <|
    .a 1 4 <| .nil _ _) ?_
  refine aw_p 15343 (
    .a 2 4 <| .nil _ _) ?_
  refine aw_fl 30687 ?_
  refine aw_sk ?_
  refine block_normal ?_
  refine then_normal ?_
  refine aw_p1 (
    .a 2 4 <| .nil _ _) ?_
  refine then_normal ?_
  refine al_round ?_
  refine aw_p 239 (
    .a 1 4 <| .nil _ _) ?_
  refine aw_sq 478 479 ?_
  refine aw_tr 956 ?_
  refine aw_sk ?_
  refine then_normal ?_
  refine aw_sq 958 959 ?_
  refine aw_bl 1 1917 ?_
  refine aw_p 3835 (
    .a 3 4 <| .nil _ _) ?_
  refine aw_p 7671 (
    .a 1 4 <|
    .p (does_callB (x := .func 38) (ars := #[.tmp 19]) (ats := #[30]) (g := 38) (vs := [.slice (some ⟨3, 0, none⟩) R3.length 0]) (m := 1) (r := 0) (firsts := #[]) (caps := #[]) (args0 := [.slice (some ⟨0, 0, none⟩) R3.length 0]) (pre0 := [(0, ⟨(R3.flatMap ptc), 28, true, 2⟩)]) (post0 := [(0, ⟨(R3.flatMap ptc), 28, true, 2⟩)]) (pre := [(3, ⟨(R3.flatMap ptc), 28, true, 2⟩)]) (post := [(3, ⟨(R3.flatMap ptc), 28, true, 2⟩)]) (v0 := .int .i64 0) (v := .int .i64 0) [3] (by kernel_rfl) (by kernel_rfl) (by kernel_rfl) (by kernel_rfl) ((by have h := chkn_own R3 R3.length rfl (by omega); rw [cR3] at h; exact h)) (.cons (.slice _ _ _ _ _ (by decide)) .nil) ⟨rfl, ⟨rfl, rfl, rfl, (.flats (flats_pair _))⟩, trivial⟩ (by kernel_rfl) (by kernel_rfl) (by kernel_rfl) ⟨rfl, ⟨rfl, rfl, rfl, (.flats (flats_pair _))⟩, trivial⟩ (.flatB (by kernel_rfl))) <|
    .a 1 4 <| .nil _ _) ?_
  refine aw_p 15343 (
    .a 2 4 <| .nil _ _) ?_
  refine aw_fl 30687 ?_
  refine aw_sk ?_
  refine block_normal ?_
  refine then_normal ?_
  refine aw_p1 (
    .a 2 4 <| .nil _ _) ?_
  refine then_normal ?_
  refine al_round ?_
  refine aw_p 239 (
    .a 1 4 <| .nil _ _) ?_
  refine aw_sq 478 479 ?_
  refine aw_fl 957 ?_
  refine aw_ex 0 ?_
  refine then_exit ?_
  refine then_exit ?_
  refine block_exit ?_
  refine then_normal ?_
  refine aw_sq 30 31 ?_
  refine aw_p 61 (
    .a 3 4 <| .nil _ _) ?_
  refine aw_bl 2 123 ?_
  refine aw_lp 247 ?_
  refine al_round ?_
  refine aw_p 495 (
    .a 1 4 <| .nil _ _) ?_
  refine aw_sq 990 991 ?_
  refine aw_tr 1980 ?_
  refine aw_sk ?_
  refine then_normal ?_
  refine aw_sq 1982 1983 ?_
  refine aw_bl 3 3965 ?_
  refine aw_p 7931 (
    .a 5 4 <| .nil _ _) ?_
  refine aw_p 15863 (
    .a 2 4 <|
    .p (does_val (v' := .slice (some ⟨0, 0, none⟩) 0 0) (does_slice (t := 25) (x := .tmp 32) (lo := none) (hi := some (.tmp 33)) (k := 0) (off := 0) (n := 3) (c := 0) (z := 1) (l := 0) (h := 0) (m := 0) (b := ⟨[.slice (some ⟨1, 0, none⟩) R1.length 0, .slice (some ⟨2, 0, none⟩) R2.length 0, .slice (some ⟨3, 0, none⟩) R3.length 0], 30, true, 1⟩) (by kernel_rfl) (by kernel_rfl) (by kernel_rfl) (by kernel_rfl) (by kernel_rfl) (by kernel_rfl) (by kernel_rfl) (by kernel_rfl) (by decide) (by decide) (by decide) (by decide)) (by kernel_rfl)) <|
    .a 2 4 <| .nil _ _) ?_
  refine aw_bl 4 31727 ?_
  refine aw_lp 63455 ?_
  refine al_round ?_
  refine aw_p 126911 (
    .a 1 4 <| .nil _ _) ?_
  refine aw_sq 253822 253823 ?_
  refine aw_fl 507645 ?_
  refine aw_ex 4 ?_
  refine then_exit ?_
  refine then_exit ?_
  refine block_exit ?_
  refine block_normal ?_
  refine then_normal ?_
  refine aw_p1 (
    .a 2 4 <| .nil _ _) ?_
  refine then_normal ?_
  refine al_round ?_
  refine aw_p 495 (
    .a 1 4 <| .nil _ _) ?_
  refine aw_sq 990 991 ?_
  refine aw_tr 1980 ?_
  refine aw_sk ?_
  refine then_normal ?_
  refine aw_sq 1982 1983 ?_
  refine aw_bl 3 3965 ?_
  refine aw_p 7931 (
    .a 5 4 <| .nil _ _) ?_
  refine aw_p 15863 (
    .a 2 4 <|
    .p (does_val (v' := .slice (some ⟨0, 0, none⟩) 1 0) (does_slice (t := 25) (x := .tmp 32) (lo := none) (hi := some (.tmp 33)) (k := 0) (off := 0) (n := 3) (c := 0) (z := 1) (l := 0) (h := 1) (m := 1) (b := ⟨[.slice (some ⟨1, 0, none⟩) R1.length 0, .slice (some ⟨2, 0, none⟩) R2.length 0, .slice (some ⟨3, 0, none⟩) R3.length 0], 30, true, 1⟩) (by kernel_rfl) (by kernel_rfl) (by kernel_rfl) (by kernel_rfl) (by kernel_rfl) (by kernel_rfl) (by kernel_rfl) (by kernel_rfl) (by decide) (by decide) (by decide) (by decide)) (by kernel_rfl)) <|
    .a 2 4 <| .nil _ _) ?_
  refine aw_bl 4 31727 ?_
  refine aw_lp 63455 ?_
  refine al_round ?_
  refine aw_p 126911 (
    .a 1 4 <| .nil _ _) ?_
  refine aw_sq 253822 253823 ?_
  refine aw_tr 507644 ?_
  refine aw_sk ?_
  refine then_normal ?_
  refine aw_sq 507646 507647 ?_
  refine aw_bl 5 1015293 ?_
  refine aw_p 2030587 (
    .a 3 4 <| .nil _ _) ?_
  refine aw_p 4061175 (
    .a 2 4 <|
    .p (does_callB (x := .func 60) (ars := #[.tmp 40, .tmp 41]) (ats := #[30, 30]) (g := 60) (vs := [.slice (some ⟨2, 0, none⟩) R2.length 0, .slice (some ⟨1, 0, none⟩) R1.length 0]) (m := 2) (r := 0) (firsts := #[]) (caps := #[]) (args0 := [.slice (some ⟨0, 0, none⟩) R2.length 0, .slice (some ⟨1, 0, none⟩) R1.length 0]) (pre0 := [(0, ⟨(R2.flatMap ptc), 28, true, 2⟩), (1, ⟨(R1.flatMap ptc), 28, true, 2⟩)]) (post0 := [(0, ⟨(R2.flatMap ptc), 28, true, 2⟩), (1, ⟨(R1.flatMap ptc), 28, true, 2⟩)]) (pre := [(2, ⟨(R2.flatMap ptc), 28, true, 2⟩), (1, ⟨(R1.flatMap ptc), 28, true, 2⟩)]) (post := [(2, ⟨(R2.flatMap ptc), 28, true, 2⟩), (1, ⟨(R1.flatMap ptc), 28, true, 2⟩)]) (v0 := .bool true) (v := .bool true) [2, 1] (by kernel_rfl) (by kernel_rfl) (by kernel_rfl) (by kernel_rfl) (fits_ok R2 R1 1 (-1) zR2 fR2 zR1 fR1 F21) (.cons (.slice _ _ _ _ _ (by decide)) (.cons (.slice _ _ _ _ _ (by decide)) .nil)) ⟨rfl, ⟨rfl, rfl, rfl, (.flats (flats_pair _))⟩, rfl, ⟨rfl, rfl, rfl, (.flats (flats_pair _))⟩, trivial⟩ (by kernel_rfl) (by kernel_rfl) (by kernel_rfl) ⟨rfl, ⟨rfl, rfl, rfl, (.flats (flats_pair _))⟩, rfl, ⟨rfl, rfl, rfl, (.flats (flats_pair _))⟩, trivial⟩ (.flatB (by kernel_rfl))) <|
    .a 1 4 <| .nil _ _) ?_
  refine aw_fl 8122351 ?_
  refine aw_sk ?_
  refine block_normal ?_
  refine then_normal ?_
  refine aw_p1 (
    .a 2 4 <| .nil _ _) ?_
  refine then_normal ?_
  refine al_round ?_
  refine aw_p 126911 (
    .a 1 4 <| .nil _ _) ?_
  refine aw_sq 253822 253823 ?_
  refine aw_fl 507645 ?_
  refine aw_ex 4 ?_
  refine then_exit ?_
  refine then_exit ?_
  refine block_exit ?_
  refine block_normal ?_
  refine then_normal ?_
  refine aw_p1 (
    .a 2 4 <| .nil _ _) ?_
  refine then_normal ?_
  refine al_round ?_
  refine aw_p 495 (
    .a 1 4 <| .nil _ _) ?_
  refine aw_sq 990 991 ?_
  refine aw_tr 1980 ?_
  refine aw_sk ?_
  refine then_normal ?_
  refine aw_sq 1982 1983 ?_
  refine aw_bl 3 3965 ?_
  refine aw_p 7931 (
    .a 5 4 <| .nil _ _) ?_
  refine aw_p 15863 (
    .a 2 4 <|
    .p (does_val (v' := .slice (some ⟨0, 0, none⟩) 2 0) (does_slice (t := 25) (x := .tmp 32) (lo := none) (hi := some (.tmp 33)) (k := 0) (off := 0) (n := 3) (c := 0) (z := 1) (l := 0) (h := 2) (m := 2) (b := ⟨[.slice (some ⟨1, 0, none⟩) R1.length 0, .slice (some ⟨2, 0, none⟩) R2.length 0, .slice (some ⟨3, 0, none⟩) R3.length 0], 30, true, 1⟩) (by kernel_rfl) (by kernel_rfl) (by kernel_rfl) (by kernel_rfl) (by kernel_rfl) (by kernel_rfl) (by kernel_rfl) (by kernel_rfl) (by decide) (by decide) (by decide) (by decide)) (by kernel_rfl)) <|
    .a 2 4 <| .nil _ _) ?_
  refine aw_bl 4 31727 ?_
  refine aw_lp 63455 ?_
  refine al_round ?_
  refine aw_p 126911 (
    .a 1 4 <| .nil _ _) ?_
  refine aw_sq 253822 253823 ?_
  refine aw_tr 507644 ?_
  refine aw_sk ?_
  refine then_normal ?_
  refine aw_sq 507646 507647 ?_
  refine aw_bl 5 1015293 ?_
  refine aw_p 2030587 (
    .a 3 4 <| .nil _ _) ?_
  refine aw_p 4061175 (
    .a 2 4 <|
    .p (does_callB (x := .func 60) (ars := #[.tmp 40, .tmp 41]) (ats := #[30, 30]) (g := 60) (vs := [.slice (some ⟨3, 0, none⟩) R3.length 0, .slice (some ⟨1, 0, none⟩) R1.length 0]) (m := 2) (r := 0) (firsts := #[]) (caps := #[]) (args0 := [.slice (some ⟨0, 0, none⟩) R3.length 0, .slice (some ⟨1, 0, none⟩) R1.length 0]) (pre0 := [(0, ⟨(R3.flatMap ptc), 28, true, 2⟩), (1, ⟨(R1.flatMap ptc), 28, true, 2⟩)]) (post0 := [(0, ⟨(R3.flatMap ptc), 28, true, 2⟩), (1, ⟨(R1.flatMap ptc), 28, true, 2⟩)]) (pre := [(3, ⟨(R3.flatMap ptc), 28, true, 2⟩), (1, ⟨(R1.flatMap ptc), 28, true, 2⟩)]) (post := [(3, ⟨(R3.flatMap ptc), 28, true, 2⟩), (1, ⟨(R1.flatMap ptc), 28, true, 2⟩)]) (v0 := .bool true) (v := .bool true) [3, 1] (by kernel_rfl) (by kernel_rfl) (by kernel_rfl) (by kernel_rfl) (fits_ok R3 R1 1 (-1) zR3 fR3 zR1 fR1 F31) (.cons (.slice _ _ _ _ _ (by decide)) (.cons (.slice _ _ _ _ _ (by decide)) .nil)) ⟨rfl, ⟨rfl, rfl, rfl, (.flats (flats_pair _))⟩, rfl, ⟨rfl, rfl, rfl, (.flats (flats_pair _))⟩, trivial⟩ (by kernel_rfl) (by kernel_rfl) (by kernel_rfl) ⟨rfl, ⟨rfl, rfl, rfl, (.flats (flats_pair _))⟩, rfl, ⟨rfl, rfl, rfl, (.flats (flats_pair _))⟩, trivial⟩ (.flatB (by kernel_rfl))) <|
    .a 1 4 <| .nil _ _) ?_
  refine aw_fl 8122351 ?_
  refine aw_sk ?_
  refine block_normal ?_
  refine then_normal ?_
  refine aw_p1 (
    .a 2 4 <| .nil _ _) ?_
  refine then_normal ?_
  refine al_round ?_
  refine aw_p 126911 (
    .a 1 4 <| .nil _ _) ?_
  refine aw_sq 253822 253823 ?_
  refine aw_tr 507644 ?_
  refine aw_sk ?_
  refine then_normal ?_
  refine aw_sq 507646 507647 ?_
  refine aw_bl 5 1015293 ?_
  refine aw_p 2030587 (
    .a 3 4 <| .nil _ _) ?_
  refine aw_p 4061175 (
    .a 2 4 <|
    .p (does_callB (x := .func 60) (ars := #[.tmp 40, .tmp 41]) (ats := #[30, 30]) (g := 60) (vs := [.slice (some ⟨3, 0, none⟩) R3.length 0, .slice (some ⟨2, 0, none⟩) R2.length 0]) (m := 2) (r := 0) (firsts := #[]) (caps := #[]) (args0 := [.slice (some ⟨0, 0, none⟩) R3.length 0, .slice (some ⟨1, 0, none⟩) R2.length 0]) (pre0 := [(0, ⟨(R3.flatMap ptc), 28, true, 2⟩), (1, ⟨(R2.flatMap ptc), 28, true, 2⟩)]) (post0 := [(0, ⟨(R3.flatMap ptc), 28, true, 2⟩), (1, ⟨(R2.flatMap ptc), 28, true, 2⟩)]) (pre := [(3, ⟨(R3.flatMap ptc), 28, true, 2⟩), (2, ⟨(R2.flatMap ptc), 28, true, 2⟩)]) (post := [(3, ⟨(R3.flatMap ptc), 28, true, 2⟩), (2, ⟨(R2.flatMap ptc), 28, true, 2⟩)]) (v0 := .bool true) (v := .bool true) [3, 2] (by kernel_rfl) (by kernel_rfl) (by kernel_rfl) (by kernel_rfl) (fits_ok R3 R2 1 (-1) zR3 fR3 zR2 fR2 F32) (.cons (.slice _ _ _ _ _ (by decide)) (.cons (.slice _ _ _ _ _ (by decide)) .nil)) ⟨rfl, ⟨rfl, rfl, rfl, (.flats (flats_pair _))⟩, rfl, ⟨rfl, rfl, rfl, (.flats (flats_pair _))⟩, trivial⟩ (by kernel_rfl) (by kernel_rfl) (by kernel_rfl) ⟨rfl, ⟨rfl, rfl, rfl, (.flats (flats_pair _))⟩, rfl, ⟨rfl, rfl, rfl, (.flats (flats_pair _))⟩, trivial⟩ (.flatB (by kernel_rfl))) <|
    .a 1 4 <| .nil _ _) ?_
  refine aw_fl 8122351 ?_
  refine aw_sk ?_
  refine block_normal ?_
  refine then_normal ?_
  refine aw_p1 (
    .a 2 4 <| .nil _ _) ?_
  refine then_normal ?_
  refine al_round ?_
  refine aw_p 126911 (
    .a 1 4 <| .nil _ _) ?_
  refine aw_sq 253822 253823 ?_
  refine aw_fl 507645 ?_
  refine aw_ex 4 ?_
  refine then_exit ?_
  refine then_exit ?_
  refine block_exit ?_
  refine block_normal ?_
  refine then_normal ?_
  refine aw_p1 (
    .a 2 4 <| .nil _ _) ?_
  refine then_normal ?_
  refine al_round ?_
  refine aw_p 495 (
    .a 1 4 <| .nil _ _) ?_
  refine aw_sq 990 991 ?_
  refine aw_fl 1981 ?_
  refine aw_ex 2 ?_
  refine then_exit ?_
  refine then_exit ?_
  refine block_exit ?_
  refine then_normal ?_
  refine aw_p 63 (
    .a 1 4 <| .nil _ _) ?_
  refine aw_rt ?_
  exact en_ret [.int .i64 0] (by kernel_rfl)

theorem acheck_s2 (R1 R2 : List (Int × Int)) (zR1 : 1 ≤ R1.length ∧ R1.length ≤ 200) (fR1 : Sp.Few 1000 R1) (zR2 : 1 ≤ R2.length ∧ R2.length ≤ 200) (fR2 : Sp.Few 1000 R2) (cR1 : Sp.chkF R1 = 0) (cR2 : Sp.chkF R2 = 0) (F21 : Sp.Fit R2 R1 (-1) (-1)) :
    AC Try.prog 18 3 ([.slice (some ⟨0, 0, none⟩) 2 0]) [(0, ⟨[.slice (some ⟨1, 0, none⟩) R1.length 0, .slice (some ⟨2, 0, none⟩) R2.length 0], 30, true, 1⟩), (1, ⟨(R1.flatMap ptc), 28, true, 2⟩), (2, ⟨(R2.flatMap ptc), 28, true, 2⟩)] (.int .i64 0) [(0, ⟨[.slice (some ⟨1, 0, none⟩) R1.length 0, .slice (some ⟨2, 0, none⟩) R2.length 0], 30, true, 1⟩), (1, ⟨(R1.flatMap ptc), 28, true, 2⟩), (2, ⟨(R2.flatMap ptc), 28, true, 2⟩)] := by
  refine ac_in Try.func18 (fun w0 W pin => ?_)
  refine aw_p 3 (
    .a 1 3 <| .nil _ _) ?_
  refine aw_sq 6 7 ?_
  refine aw_p 13 (
    .a 3 3 <| .nil _ _) ?_
  refine aw_fl 27 ?_
  refine aw_sk ?_
  refine then_normal ?_
  refine aw_sq 14 15 ?_
  refine aw_p 29 (
    .a 3 3 <| .nil _ _) ?_
  refine aw_bl 0 59 ?_
  refine aw_lp 119 ?_
  refine al_round ?_
  refine aw_p 239 (
    .a 1 3 <| .nil _ _) ?_
  refine aw_sq 478 479 ?_
  refine aw_tr 956 ?_
  refine aw_sk ?_
  refine then_normal ?_
  refine aw_sq 958 959 ?_
  refine aw_bl 1 1917 ?_
  refine aw_p 3835 (
    .a 3 3 <| .nil _ _) ?_
  refine aw_p 7671 (
    .a 1 3 <|
    .p (does_callB (x := .func 38) (ars := #[.tmp 19]) (ats := #[30]) (g := 38) (vs := [.slice (some ⟨1, 0, none⟩) R1.length 0]) (m := 1) (r := 0) (firsts := #[]) (caps := #[]) (args0 := [.slice (some ⟨0, 0, none⟩) R1.length 0]) (pre0 := [(0, ⟨(R1.flatMap ptc), 28, true, 2⟩)]) (post0 := [(0, ⟨(R1.flatMap ptc), 28, true, 2⟩)]) (pre := [(1, ⟨(R1.flatMap ptc), 28, true, 2⟩)]) (post := [(1, ⟨(R1.flatMap ptc), 28, true, 2⟩)]) (v0 := .int .i64 0) (v := .int .i64 0) [1] (by kernel_rfl) (by kernel_rfl) (by kernel_rfl) (by kernel_rfl) ((by have h := chkn_own R1 R1.length rfl (by omega); rw [cR1] at h; exact h)) (.cons (.slice _ _ _ _ _ (by decide)) .nil) ⟨rfl, ⟨rfl, rfl, rfl, (.flats (flats_pair _))⟩, trivial⟩ (by kernel_rfl) (by kernel_rfl) (by kernel_rfl) ⟨rfl, ⟨rfl, rfl, rfl, (.flats (flats_pair _))⟩, trivial⟩ (.flatB (by kernel_rfl))) <|
    .a 1 3 <| .nil _ _) ?_
  refine aw_p 15343 (
    .a 2 3 <| .nil _ _) ?_
  refine aw_fl 30687 ?_
  refine aw_sk ?_
  refine block_normal ?_
  refine then_normal ?_
  refine aw_p1 (
    .a 2 3 <| .nil _ _) ?_
  refine then_normal ?_
  refine al_round ?_
  refine aw_p 239 (
    .a 1 3 <| .nil _ _) ?_
  refine aw_sq 478 479 ?_
  refine aw_tr 956 ?_
  refine aw_sk ?_
  refine then_normal ?_
  refine aw_sq 958 959 ?_
  refine aw_bl 1 1917 ?_
  refine aw_p 3835 (
    .a 3 3 <| .nil _ _) ?_
  refine aw_p 7671 (
    .a 1 3 <|
    .p (does_callB (x := .func 38) (ars := #[.tmp 19]) (ats := #[30]) (g := 38) (vs := [.slice (some ⟨2, 0, none⟩) R2.length 0]) (m := 1) (r := 0) (firsts := #[]) (caps := #[]) (args0 := [.slice (some ⟨0, 0, none⟩) R2.length 0]) (pre0 := [(0, ⟨(R2.flatMap ptc), 28, true, 2⟩)]) (post0 := [(0, ⟨(R2.flatMap ptc), 28, true, 2⟩)]) (pre := [(2, ⟨(R2.flatMap ptc), 28, true, 2⟩)]) (post := [(2, ⟨(R2.flatMap ptc), 28, true, 2⟩)]) (v0 := .int .i64 0) (v := .int .i64 0) [2] (by kernel_rfl) (by kernel_rfl) (by kernel_rfl) (by kernel_rfl) ((by have h := chkn_own R2 R2.length rfl (by omega); rw [cR2] at h; exact h)) (.cons (.slice _ _ _ _ _ (by decide)) .nil) ⟨rfl, ⟨rfl, rfl, rfl, (.flats (flats_pair _))⟩, trivial⟩ (by kernel_rfl) (by kernel_rfl) (by kernel_rfl) ⟨rfl, ⟨rfl, rfl, rfl, (.flats (flats_pair _))⟩, trivial⟩ (.flatB (by kernel_rfl))) <|
    .a 1 3 <| .nil _ _) ?_
  refine aw_p 15343 (
    .a 2 3 <| .nil _ _) ?_
  refine aw_fl 30687 ?_
  refine aw_sk ?_
  refine block_normal ?_
  refine then_normal ?_
  refine aw_p1 (
    .a 2 3 <| .nil _ _) ?_
  refine then_normal ?_
  refine al_round ?_
  refine aw_p 239 (
    .a 1 3 <| .nil _ _) ?_
  refine aw_sq 478 479 ?_
  refine aw_fl 957 ?_
  refine aw_ex 0 ?_
  refine then_exit ?_
  refine then_exit ?_
  refine block_exit ?_
  refine then_normal ?_
  refine aw_sq 30 31 ?_
  refine aw_p 61 (
    .a 3 3 <| .nil _ _) ?_
  refine aw_bl 2 123 ?_
  refine aw_lp 247 ?_
  refine al_round ?_
  refine aw_p 495 (
    .a 1 3 <| .nil _ _) ?_
  refine aw_sq 990 991 ?_
  refine aw_tr 1980 ?_
  refine aw_sk ?_
  refine then_normal ?_
  refine aw_sq 1982 1983 ?_
  refine aw_bl 3 3965 ?_
  refine aw_p 7931 (
    .a 5 3 <| .nil _ _) ?_
  refine aw_p 15863 (
    .a 2 3 <|
    .p (does_val (v' := .slice (some ⟨0, 0, none⟩) 0 0) (does_slice (t := 25) (x := .tmp 32) (lo := none) (hi := some (.tmp 33)) (k := 0) (off := 0) (n := 2) (c := 0) (z := 1) (l := 0) (h := 0) (m := 0) (b := ⟨[.slice (some ⟨1, 0, none⟩) R1.length 0, .slice (some ⟨2, 0, none⟩) R2.length 0], 30, true, 1⟩) (by kernel_rfl) (by kernel_rfl) (by kernel_rfl) (by kernel_rfl) (by kernel_rfl) (by kernel_rfl) (by kernel_rfl) (by kernel_rfl) (by decide) (by decide) (by decide) (by decide)) (by kernel_rfl)) <|
    .a 2 3 <| .nil _ _) ?_
  refine aw_bl 4 31727 ?_
  refine aw_lp 63455 ?_
  refine al_round ?_
  refine aw_p 126911 (
    .a 1 3 <| .nil _ _) ?_
  refine aw_sq 253822 253823 ?_
  refine aw_fl 507645 ?_
  refine aw_ex 4 ?_
  refine then_exit ?_
  refine then_exit ?_
  refine block_exit ?_
  refine block_normal ?_
  refine then_normal ?_
  refine aw_p1 (
    .a 2 3 <| .nil _ _) ?_
  refine then_normal ?_
  refine al_round ?_
  refine aw_p 495 (
    .a 1 3 <| .nil _ _) ?_
  refine aw_sq 990 991 ?_
  refine aw_tr 1980 ?_
  refine aw_sk ?_
  refine then_normal ?_
  refine aw_sq 1982 1983 ?_
  refine aw_bl 3 3965 ?_
  refine aw_p 7931 (
    .a 5 3 <| .nil _ _) ?_
  refine aw_p 15863 (
    .a 2 3 <|
    .p (does_val (v' := .slice (some ⟨0, 0, none⟩) 1 0) (does_slice (t := 25) (x := .tmp 32) (lo := none) (hi := some (.tmp 33)) (k := 0) (off := 0) (n := 2) (c := 0) (z := 1) (l := 0) (h := 1) (m := 1) (b := ⟨[.slice (some ⟨1, 0, none⟩) R1.length 0, .slice (some ⟨2, 0, none⟩) R2.length 0], 30, true, 1⟩) (by kernel_rfl) (by kernel_rfl) (by kernel_rfl) (by kernel_rfl) (by kernel_rfl) (by kernel_rfl) (by kernel_rfl) (by kernel_rfl) (by decide) (by decide) (by decide) (by decide)) (by kernel_rfl)) <|
    .a 2 3 <| .nil _ _) ?_
  refine aw_bl 4 31727 ?_
  refine aw_lp 63455 ?_
  refine al_round ?_
  refine aw_p 126911 (
    .a 1 3 <| .nil _ _) ?_
  refine aw_sq 253822 253823 ?_
  refine aw_tr 507644 ?_
  refine aw_sk ?_
  refine then_normal ?_
  refine aw_sq 507646 507647 ?_
  refine aw_bl 5 1015293 ?_
  refine aw_p 2030587 (
    .a 3 3 <| .nil _ _) ?_
  refine aw_p 4061175 (
    .a 2 3 <|
    .p (does_callB (x := .func 60) (ars := #[.tmp 40, .tmp 41]) (ats := #[30, 30]) (g := 60) (vs := [.slice (some ⟨2, 0, none⟩) R2.length 0, .slice (some ⟨1, 0, none⟩) R1.length 0]) (m := 2) (r := 0) (firsts := #[]) (caps := #[]) (args0 := [.slice (some ⟨0, 0, none⟩) R2.length 0, .slice (some ⟨1, 0, none⟩) R1.length 0]) (pre0 := [(0, ⟨(R2.flatMap ptc), 28, true, 2⟩), (1, ⟨(R1.flatMap ptc), 28, true, 2⟩)]) (post0 := [(0, ⟨(R2.flatMap ptc), 28, true, 2⟩), (1, ⟨(R1.flatMap ptc), 28, true, 2⟩)]) (pre := [(2, ⟨(R2.flatMap ptc), 28, true, 2⟩), (1, ⟨(R1.flatMap ptc), 28, true, 2⟩)]) (post := [(2, ⟨(R2.flatMap ptc), 28, true, 2⟩), (1, ⟨(R1.flatMap ptc), 28, true, 2⟩)]) (v0 := .bool true) (v := .bool true) [2, 1] (by kernel_rfl) (by kernel_rfl) (by kernel_rfl) (by kernel_rfl) (fits_ok R2 R1 (-1) (-1) zR2 fR2 zR1 fR1 F21) (.cons (.slice _ _ _ _ _ (by decide)) (.cons (.slice _ _ _ _ _ (by decide)) .nil)) ⟨rfl, ⟨rfl, rfl, rfl, (.flats (flats_pair _))⟩, rfl, ⟨rfl, rfl, rfl, (.flats (flats_pair _))⟩, trivial⟩ (by kernel_rfl) (by kernel_rfl) (by kernel_rfl) ⟨rfl, ⟨rfl, rfl, rfl, (.flats (flats_pair _))⟩, rfl, ⟨rfl, rfl, rfl, (.flats (flats_pair _))⟩, trivial⟩ (.flatB (by kernel_rfl))) <|
    .a 1 3 <| .nil _ _) ?_
  refine aw_fl 8122351 ?_
  refine aw_sk ?_
  refine block_normal ?_
  refine then_normal ?_
  refine aw_p1 (
    .a 2 3 <| .nil _ _) ?_
  refine then_normal ?_
  refine al_round ?_
  refine aw_p 126911 (
    .a 1 3 <| .nil _ _) ?_
  refine aw_sq 253822 253823 ?_
  refine aw_fl 507645 ?_
  refine aw_ex 4 ?_
  refine then_exit ?_
  refine then_exit ?_
  refine block_exit ?_
  refine block_normal ?_
  refine then_normal ?_
  refine aw_p1 (
    .a 2 3 <| .nil _ _) ?_
  refine then_normal ?_
  refine al_round ?_
  refine aw_p 495 (
    .a 1 3 <| .nil _ _) ?_
  refine aw_sq 990 991 ?_
  refine aw_fl 1981 ?_
  refine aw_ex 2 ?_
  refine then_exit ?_
  refine then_exit ?_
  refine block_exit ?_
  refine then_normal ?_
  refine aw_p 63 (
    .a 1 3 <| .nil _ _) ?_
  refine aw_rt ?_
  exact en_ret [.int .i64 0] (by kernel_rfl)

theorem ahas_1 (R1 : List (Int × Int)) (zR1 : 1 ≤ R1.length ∧ R1.length ≤ 200) (fR1 : Sp.Few 1000 R1) (px py : Int) :
    AC Try.prog 12 2 ([.slice (some ⟨0, 0, none⟩) 1 0, .agg #[.int .i64 px, .int .i64 py]]) [(0, ⟨[.slice (some ⟨1, 0, none⟩) R1.length 0], 30, true, 1⟩), (1, ⟨(R1.flatMap ptc), 28, true, 2⟩)] (.int .i64 (Sp.ahF [Sp.hasF R1 (Sp.lim 1048576 px) (Sp.lim 1048576 py) 0 (-1)] (-1))) [(0, ⟨[.slice (some ⟨1, 0, none⟩) R1.length 0], 30, true, 1⟩), (1, ⟨(R1.flatMap ptc), 28, true, 2⟩)] := by
  refine ac_in Try.func12 (fun w0 W pin => ?_)
  refine aw_p 3 (
    .a 2 2 <| .nil _ _) ?_
  refine aw_p 7 (
    .a 1 3 <| .nil _ _) ?_
  refine aw_sq 14 15 ?_
  refine aw_p 29 (
    .a 3 3 <| .nil _ _) ?_
  refine aw_bl 0 59 ?_
  refine aw_lp 119 ?_
  refine al_round ?_
  refine aw_p 239 (
    .a 1 3 <| .nil _ _) ?_
  refine aw_sq 478 479 ?_
  refine aw_tr 956 ?_
  refine aw_sk ?_
  refine then_normal ?_
  refine aw_sq 958 959 ?_
  refine aw_bl 1 1917 ?_
  refine aw_p 3835 (
    .a 3 3 <| .nil _ _) ?_
  refine aw_p 7671 (
    .a 2 3 <|
    .p (does_callB (x := .func 11) (ars := #[.tmp 14, .tmp 15]) (ats := #[30, 28]) (g := 11) (vs := [.slice (some ⟨1, 0, none⟩) R1.length 0, .agg #[.int .i64 px, .int .i64 py]]) (m := 1) (r := 0) (firsts := #[]) (caps := #[]) (args0 := [.slice (some ⟨0, 0, none⟩) R1.length 0, .agg #[.int .i64 px, .int .i64 py]]) (pre0 := [(0, ⟨(R1.flatMap ptc), 28, true, 2⟩)]) (post0 := [(0, ⟨(R1.flatMap ptc), 28, true, 2⟩)]) (pre := [(1, ⟨(R1.flatMap ptc), 28, true, 2⟩)]) (post := [(1, ⟨(R1.flatMap ptc), 28, true, 2⟩)]) (v0 := .int .i64 (Sp.hasF R1 (Sp.lim 1048576 px) (Sp.lim 1048576 py) 0 (-1))) (v := .int .i64 (Sp.hasF R1 (Sp.lim 1048576 px) (Sp.lim 1048576 py) 0 (-1))) [1] (by kernel_rfl) (by kernel_rfl) (by kernel_rfl) (by kernel_rfl) (hasn_own R1 R1.length (rfl) (by first | omega | decide) px py) (.cons (.slice _ _ _ _ _ (by decide)) (.cons (.flatB (by kernel_rfl)) .nil)) ⟨rfl, ⟨rfl, rfl, rfl, (.flats (flats_pair _))⟩, trivial⟩ (by kernel_rfl) (by kernel_rfl) (by kernel_rfl) ⟨rfl, ⟨rfl, rfl, rfl, (.flats (flats_pair _))⟩, trivial⟩ (.flatB (by kernel_rfl))) <| .nil _ _) ?_
  refine aw_bl 2 15343 ?_
  refine aw_p 30687 (
    .a 2 3 <| .nil _ _) ?_
  refine aw_cd 61374 61375 ((Sp.hasF R1 (Sp.lim 1048576 px) (Sp.lim 1048576 py) 0 (-1)) == 0) (fun h1 => ?_) (fun h1 => ?_)
  · have h1p : (((Sp.hasF R1 (Sp.lim 1048576 px) (Sp.lim 1048576 py) 0 (-1)) = 0)) := by first | (simpa using h1) | (have h1q := h1; simp at h1q; omega) | (have h1q := bx1 h1; simp at h1q; omega)
    refine aw_p 122749 (
      .a 1 3 <| .nil _ _) ?_
    refine aw_rt ?_
    refine block_ret ?_
    refine block_ret ?_
    refine then_ret ?_
    refine then_ret ?_
    refine block_ret ?_
    refine then_ret ?_
    exact en_ret [.int .i64 0] (show (.int .i64 0 : Value) = (.int .i64 (Sp.ahF [Sp.hasF R1 (Sp.lim 1048576 px) (Sp.lim 1048576 py) 0 (-1)] (-1))) from (congrArg (Value.int .i64) (show 0 = (Sp.ahF [Sp.hasF R1 (Sp.lim 1048576 px) (Sp.lim 1048576 py) 0 (-1)] (-1)) from by (simp [Sp.ahF, *]))))
  · have h1p : ¬ (((Sp.hasF R1 (Sp.lim 1048576 px) (Sp.lim 1048576 py) 0 (-1)) = 0)) := by first | (simpa using h1) | (have h1q := h1; simp at h1q; omega) | (have h1q := bx2 h1; simp at h1q; omega)
    refine aw_p 122751 (
      .a 2 3 <| .nil _ _) ?_
    refine aw_cd 245502 245503 ((Sp.hasF R1 (Sp.lim 1048576 px) (Sp.lim 1048576 py) 0 (-1)) == 1) (fun h2 => ?_) (fun h2 => ?_)
    · have h2p : (((Sp.hasF R1 (Sp.lim 1048576 px) (Sp.lim 1048576 py) 0 (-1)) = 1)) := by first | (simpa using h2) | (have h2q := h2; simp at h2q; omega) | (have h2q := bx1 h2; simp at h2q; omega)
      refine aw_p1 (
        .a 3 3 <| .nil _ _) ?_
      refine block_normal ?_
      refine block_normal ?_
      refine then_normal ?_
      refine aw_p1 (
        .a 2 3 <| .nil _ _) ?_
      refine then_normal ?_
      refine al_round ?_
      refine aw_p 239 (
        .a 1 3 <| .nil _ _) ?_
      refine aw_sq 478 479 ?_
      refine aw_fl 957 ?_
      refine aw_ex 0 ?_
      refine then_exit ?_
      refine then_exit ?_
      refine block_exit ?_
      refine then_normal ?_
      refine aw_p 31 (
        .a 2 3 <| .nil _ _) ?_
      refine aw_rt ?_
      exact en_ret [.int .i64 1] (show (.int .i64 1 : Value) = (.int .i64 (Sp.ahF [Sp.hasF R1 (Sp.lim 1048576 px) (Sp.lim 1048576 py) 0 (-1)] (-1))) from (congrArg (Value.int .i64) (show 1 = (Sp.ahF [Sp.hasF R1 (Sp.lim 1048576 px) (Sp.lim 1048576 py) 0 (-1)] (-1)) from by (simp [Sp.ahF, *]))))
    · have h2p : ¬ (((Sp.hasF R1 (Sp.lim 1048576 px) (Sp.lim 1048576 py) 0 (-1)) = 1)) := by first | (simpa using h2) | (have h2q := h2; simp at h2q; omega) | (have h2q := bx2 h2; simp at h2q; omega)
      refine aw_sk ?_
      refine block_normal ?_
      refine block_normal ?_
      refine then_normal ?_
      refine aw_p1 (
        .a 2 3 <| .nil _ _) ?_
      refine then_normal ?_
      refine al_round ?_
      refine aw_p 239 (
        .a 1 3 <| .nil _ _) ?_
      refine aw_sq 478 479 ?_
      refine aw_fl 957 ?_
      refine aw_ex 0 ?_
      refine then_exit ?_
      refine then_exit ?_
      refine block_exit ?_
      refine then_normal ?_
      refine aw_p 31 (
        .a 2 3 <| .nil _ _) ?_
      refine aw_rt ?_
      exact en_ret [.int .i64 (-1)] (show (.int .i64 (-1) : Value) = (.int .i64 (Sp.ahF [Sp.hasF R1 (Sp.lim 1048576 px) (Sp.lim 1048576 py) 0 (-1)] (-1))) from (congrArg (Value.int .i64) (show (-1) = (Sp.ahF [Sp.hasF R1 (Sp.lim 1048576 px) (Sp.lim 1048576 py) 0 (-1)] (-1)) from by (simp [Sp.ahF, *]))))

theorem ahas_2 (R1 R2 : List (Int × Int)) (zR1 : 1 ≤ R1.length ∧ R1.length ≤ 200) (fR1 : Sp.Few 1000 R1) (zR2 : 1 ≤ R2.length ∧ R2.length ≤ 200) (fR2 : Sp.Few 1000 R2) (px py : Int) :
    AC Try.prog 12 3 ([.slice (some ⟨0, 0, none⟩) 2 0, .agg #[.int .i64 px, .int .i64 py]]) [(0, ⟨[.slice (some ⟨1, 0, none⟩) R1.length 0, .slice (some ⟨2, 0, none⟩) R2.length 0], 30, true, 1⟩), (1, ⟨(R1.flatMap ptc), 28, true, 2⟩), (2, ⟨(R2.flatMap ptc), 28, true, 2⟩)] (.int .i64 (Sp.ahF [Sp.hasF R1 (Sp.lim 1048576 px) (Sp.lim 1048576 py) 0 (-1), Sp.hasF R2 (Sp.lim 1048576 px) (Sp.lim 1048576 py) 0 (-1)] (-1))) [(0, ⟨[.slice (some ⟨1, 0, none⟩) R1.length 0, .slice (some ⟨2, 0, none⟩) R2.length 0], 30, true, 1⟩), (1, ⟨(R1.flatMap ptc), 28, true, 2⟩), (2, ⟨(R2.flatMap ptc), 28, true, 2⟩)] := by
  refine ac_in Try.func12 (fun w0 W pin => ?_)
  refine aw_p 3 (
    .a 2 3 <| .nil _ _) ?_
  refine aw_p 7 (
    .a 1 4 <| .nil _ _) ?_
  refine aw_sq 14 15 ?_
  refine aw_p 29 (
    .a 3 4 <| .nil _ _) ?_
  refine aw_bl 0 59 ?_
  refine aw_lp 119 ?_
  refine al_round ?_
  refine aw_p 239 (
    .a 1 4 <| .nil _ _) ?_
  refine aw_sq 478 479 ?_
  refine aw_tr 956 ?_
  refine aw_sk ?_
  refine then_normal ?_
  refine aw_sq 958 959 ?_
  refine aw_bl 1 1917 ?_
  refine aw_p 3835 (
    .a 3 4 <| .nil _ _) ?_
  refine aw_p 7671 (
    .a 2 4 <|
    .p (does_callB (x := .func 11) (ars := #[.tmp 14, .tmp 15]) (ats := #[30, 28]) (g := 11) (vs := [.slice (some ⟨1, 0, none⟩) R1.length 0, .agg #[.int .i64 px, .int .i64 py]]) (m := 1) (r := 0) (firsts := #[]) (caps := #[]) (args0 := [.slice (some ⟨0, 0, none⟩) R1.length 0, .agg #[.int .i64 px, .int .i64 py]]) (pre0 := [(0, ⟨(R1.flatMap ptc), 28, true, 2⟩)]) (post0 := [(0, ⟨(R1.flatMap ptc), 28, true, 2⟩)]) (pre := [(1, ⟨(R1.flatMap ptc), 28, true, 2⟩)]) (post := [(1, ⟨(R1.flatMap ptc), 28, true, 2⟩)]) (v0 := .int .i64 (Sp.hasF R1 (Sp.lim 1048576 px) (Sp.lim 1048576 py) 0 (-1))) (v := .int .i64 (Sp.hasF R1 (Sp.lim 1048576 px) (Sp.lim 1048576 py) 0 (-1))) [1] (by kernel_rfl) (by kernel_rfl) (by kernel_rfl) (by kernel_rfl) (hasn_own R1 R1.length (rfl) (by first | omega | decide) px py) (.cons (.slice _ _ _ _ _ (by decide)) (.cons (.flatB (by kernel_rfl)) .nil)) ⟨rfl, ⟨rfl, rfl, rfl, (.flats (flats_pair _))⟩, trivial⟩ (by kernel_rfl) (by kernel_rfl) (by kernel_rfl) ⟨rfl, ⟨rfl, rfl, rfl, (.flats (flats_pair _))⟩, trivial⟩ (.flatB (by kernel_rfl))) <| .nil _ _) ?_
  refine aw_bl 2 15343 ?_
  refine aw_p 30687 (
    .a 2 4 <| .nil _ _) ?_
  refine aw_cd 61374 61375 ((Sp.hasF R1 (Sp.lim 1048576 px) (Sp.lim 1048576 py) 0 (-1)) == 0) (fun h1 => ?_) (fun h1 => ?_)
  · have h1p : (((Sp.hasF R1 (Sp.lim 1048576 px) (Sp.lim 1048576 py) 0 (-1)) = 0)) := by first | (simpa using h1) | (have h1q := h1; simp at h1q; omega) | (have h1q := bx1 h1; simp at h1q; omega)
    refine aw_p 122749 (
      .a 1 4 <| .nil _ _) ?_
    refine aw_rt ?_
    refine block_ret ?_
    refine block_ret ?_
    refine then_ret ?_
    refine then_ret ?_
    refine block_ret ?_
    refine then_ret ?_
    exact en_ret [.int .i64 0] (show (.int .i64 0 : Value) = (.int .i64 (Sp.ahF [Sp.hasF R1 (Sp.lim 1048576 px) (Sp.lim 1048576 py) 0 (-1), Sp.hasF R2 (Sp.lim 1048576 px) (Sp.lim 1048576 py) 0 (-1)] (-1))) from (congrArg (Value.int .i64) (show 0 = (Sp.ahF [Sp.hasF R1 (Sp.lim 1048576 px) (Sp.lim 1048576 py) 0 (-1), Sp.hasF R2 (Sp.lim 1048576 px) (Sp.lim 1048576 py) 0 (-1)] (-1)) from by (simp [Sp.ahF, *]))))
  · have h1p : ¬ (((Sp.hasF R1 (Sp.lim 1048576 px) (Sp.lim 1048576 py) 0 (-1)) = 0)) := by first | (simpa using h1) | (have h1q := h1; simp at h1q; omega) | (have h1q := bx2 h1; simp at h1q; omega)
    refine aw_p 122751 (
      .a 2 4 <| .nil _ _) ?_
    refine aw_cd 245502 245503 ((Sp.hasF R1 (Sp.lim 1048576 px) (Sp.lim 1048576 py) 0 (-1)) == 1) (fun h2 => ?_) (fun h2 => ?_)
    · have h2p : (((Sp.hasF R1 (Sp.lim 1048576 px) (Sp.lim 1048576 py) 0 (-1)) = 1)) := by first | (simpa using h2) | (have h2q := h2; simp at h2q; omega) | (have h2q := bx1 h2; simp at h2q; omega)
      refine aw_p1 (
        .a 3 4 <| .nil _ _) ?_
      refine block_normal ?_
      refine block_normal ?_
      refine then_normal ?_
      refine aw_p1 (
        .a 2 4 <| .nil _ _) ?_
      refine then_normal ?_
      refine al_round ?_
      refine aw_p 239 (
        .a 1 4 <| .nil _ _) ?_
      refine aw_sq 478 479 ?_
      refine aw_tr 956 ?_
      refine aw_sk ?_
      refine then_normal ?_
      refine aw_sq 958 959 ?_
      refine aw_bl 1 1917 ?_
      refine aw_p 3835 (
        .a 3 4 <| .nil _ _) ?_
      refine aw_p 7671 (
        .a 2 4 <|
        .p (does_callB (x := .func 11) (ars := #[.tmp 14, .tmp 15]) (ats := #[30, 28]) (g := 11) (vs := [.slice (some ⟨2, 0, none⟩) R2.length 0, .agg #[.int .i64 px, .int .i64 py]]) (m := 1) (r := 0) (firsts := #[]) (caps := #[]) (args0 := [.slice (some ⟨0, 0, none⟩) R2.length 0, .agg #[.int .i64 px, .int .i64 py]]) (pre0 := [(0, ⟨(R2.flatMap ptc), 28, true, 2⟩)]) (post0 := [(0, ⟨(R2.flatMap ptc), 28, true, 2⟩)]) (pre := [(2, ⟨(R2.flatMap ptc), 28, true, 2⟩)]) (post := [(2, ⟨(R2.flatMap ptc), 28, true, 2⟩)]) (v0 := .int .i64 (Sp.hasF R2 (Sp.lim 1048576 px) (Sp.lim 1048576 py) 0 (-1))) (v := .int .i64 (Sp.hasF R2 (Sp.lim 1048576 px) (Sp.lim 1048576 py) 0 (-1))) [2] (by kernel_rfl) (by kernel_rfl) (by kernel_rfl) (by kernel_rfl) (hasn_own R2 R2.length (rfl) (by first | omega | decide) px py) (.cons (.slice _ _ _ _ _ (by decide)) (.cons (.flatB (by kernel_rfl)) .nil)) ⟨rfl, ⟨rfl, rfl, rfl, (.flats (flats_pair _))⟩, trivial⟩ (by kernel_rfl) (by kernel_rfl) (by kernel_rfl) ⟨rfl, ⟨rfl, rfl, rfl, (.flats (flats_pair _))⟩, trivial⟩ (.flatB (by kernel_rfl))) <| .nil _ _) ?_
      refine aw_bl 2 15343 ?_
      refine aw_p 30687 (
        .a 2 4 <| .nil _ _) ?_
      refine aw_cd 61374 61375 ((Sp.hasF R2 (Sp.lim 1048576 px) (Sp.lim 1048576 py) 0 (-1)) == 0) (fun h3 => ?_) (fun h3 => ?_)
      · have h3p : (((Sp.hasF R2 (Sp.lim 1048576 px) (Sp.lim 1048576 py) 0 (-1)) = 0)) := by first | (simpa using h3) | (have h3q := h3; simp at h3q; omega) | (have h3q := bx1 h3; simp at h3q; omega)
        refine aw_p 122749 (
          .a 1 4 <| .nil _ _) ?_
        refine aw_rt ?_
        refine block_ret ?_
        refine block_ret ?_
        refine then_ret ?_
        refine then_ret ?_
        refine block_ret ?_
        refine then_ret ?_
        exact en_ret [.int .i64 0] (show (.int .i64 0 : Value) = (.int .i64 (Sp.ahF [Sp.hasF R1 (Sp.lim 1048576 px) (Sp.lim 1048576 py) 0 (-1), Sp.hasF R2 (Sp.lim 1048576 px) (Sp.lim 1048576 py) 0 (-1)] (-1))) from (congrArg (Value.int .i64) (show 0 = (Sp.ahF [Sp.hasF R1 (Sp.lim 1048576 px) (Sp.lim 1048576 py) 0 (-1), Sp.hasF R2 (Sp.lim 1048576 px) (Sp.lim 1048576 py) 0 (-1)] (-1)) from by (simp [Sp.ahF, *]))))
      · have h3p : ¬ (((Sp.hasF R2 (Sp.lim 1048576 px) (Sp.lim 1048576 py) 0 (-1)) = 0)) := by first | (simpa using h3) | (have h3q := h3; simp at h3q; omega) | (have h3q := bx2 h3; simp at h3q; omega)
        refine aw_p 122751 (
          .a 2 4 <| .nil _ _) ?_
        refine aw_cd 245502 245503 ((Sp.hasF R2 (Sp.lim 1048576 px) (Sp.lim 1048576 py) 0 (-1)) == 1) (fun h4 => ?_) (fun h4 => ?_)
        · have h4p : (((Sp.hasF R2 (Sp.lim 1048576 px) (Sp.lim 1048576 py) 0 (-1)) = 1)) := by first | (simpa using h4) | (have h4q := h4; simp at h4q; omega) | (have h4q := bx1 h4; simp at h4q; omega)
          refine aw_p1 (
            .a 3 4 <| .nil _ _) ?_
          refine block_normal ?_
          refine block_normal ?_
          refine then_normal ?_
          refine aw_p1 (
            .a 2 4 <| .nil _ _) ?_
          refine then_normal ?_
          refine al_round ?_
          refine aw_p 239 (
            .a 1 4 <| .nil _ _) ?_
          refine aw_sq 478 479 ?_
          refine aw_fl 957 ?_
          refine aw_ex 0 ?_
          refine then_exit ?_
          refine then_exit ?_
          refine block_exit ?_
          refine then_normal ?_
          refine aw_p 31 (
            .a 2 4 <| .nil _ _) ?_
          refine aw_rt ?_
          exact en_ret [.int .i64 (-1)] (show (.int .i64 (-1) : Value) = (.int .i64 (Sp.ahF [Sp.hasF R1 (Sp.lim 1048576 px) (Sp.lim 1048576 py) 0 (-1), Sp.hasF R2 (Sp.lim 1048576 px) (Sp.lim 1048576 py) 0 (-1)] (-1))) from (congrArg (Value.int .i64) (show (-1) = (Sp.ahF [Sp.hasF R1 (Sp.lim 1048576 px) (Sp.lim 1048576 py) 0 (-1), Sp.hasF R2 (Sp.lim 1048576 px) (Sp.lim 1048576 py) 0 (-1)] (-1)) from by (simp [Sp.ahF, *]))))
        · have h4p : ¬ (((Sp.hasF R2 (Sp.lim 1048576 px) (Sp.lim 1048576 py) 0 (-1)) = 1)) := by first | (simpa using h4) | (have h4q := h4; simp at h4q; omega) | (have h4q := bx2 h4; simp at h4q; omega)
          refine aw_sk ?_
          refine block_normal ?_
          refine block_normal ?_
          refine then_normal ?_
          refine aw_p1 (
            .a 2 4 <| .nil _ _) ?_
          refine then_normal ?_
          refine al_round ?_
          refine aw_p 239 (
            .a 1 4 <| .nil _ _) ?_
          refine aw_sq 478 479 ?_
          refine aw_fl 957 ?_
          refine aw_ex 0 ?_
          refine then_exit ?_
          refine then_exit ?_
          refine block_exit ?_
          refine then_normal ?_
          refine aw_p 31 (
            .a 2 4 <| .nil _ _) ?_
          refine aw_rt ?_
          exact en_ret [.int .i64 1] (show (.int .i64 1 : Value) = (.int .i64 (Sp.ahF [Sp.hasF R1 (Sp.lim 1048576 px) (Sp.lim 1048576 py) 0 (-1), Sp.hasF R2 (Sp.lim 1048576 px) (Sp.lim 1048576 py) 0 (-1)] (-1))) from (congrArg (Value.int .i64) (show 1 = (Sp.ahF [Sp.hasF R1 (Sp.lim 1048576 px) (Sp.lim 1048576 py) 0 (-1), Sp.hasF R2 (Sp.lim 1048576 px) (Sp.lim 1048576 py) 0 (-1)] (-1)) from by (simp [Sp.ahF, *]))))
    · have h2p : ¬ (((Sp.hasF R1 (Sp.lim 1048576 px) (Sp.lim 1048576 py) 0 (-1)) = 1)) := by first | (simpa using h2) | (have h2q := h2; simp at h2q; omega) | (have h2q := bx2 h2; simp at h2q; omega)
      refine aw_sk ?_
      refine block_normal ?_
      refine block_normal ?_
      refine then_normal ?_
      refine aw_p1 (
        .a 2 4 <| .nil _ _) ?_
      refine then_normal ?_
      refine al_round ?_
      refine aw_p 239 (
        .a 1 4 <| .nil _ _) ?_
      refine aw_sq 478 479 ?_
      refine aw_tr 956 ?_
      refine aw_sk ?_
      refine then_normal ?_
      refine aw_sq 958 959 ?_
      refine aw_bl 1 1917 ?_
      refine aw_p 3835 (
        .a 3 4 <| .nil _ _) ?_
      refine aw_p 7671 (
        .a 2 4 <|
        .p (does_callB (x := .func 11) (ars := #[.tmp 14, .tmp 15]) (ats := #[30, 28]) (g := 11) (vs := [.slice (some ⟨2, 0, none⟩) R2.length 0, .agg #[.int .i64 px, .int .i64 py]]) (m := 1) (r := 0) (firsts := #[]) (caps := #[]) (args0 := [.slice (some ⟨0, 0, none⟩) R2.length 0, .agg #[.int .i64 px, .int .i64 py]]) (pre0 := [(0, ⟨(R2.flatMap ptc), 28, true, 2⟩)]) (post0 := [(0, ⟨(R2.flatMap ptc), 28, true, 2⟩)]) (pre := [(2, ⟨(R2.flatMap ptc), 28, true, 2⟩)]) (post := [(2, ⟨(R2.flatMap ptc), 28, true, 2⟩)]) (v0 := .int .i64 (Sp.hasF R2 (Sp.lim 1048576 px) (Sp.lim 1048576 py) 0 (-1))) (v := .int .i64 (Sp.hasF R2 (Sp.lim 1048576 px) (Sp.lim 1048576 py) 0 (-1))) [2] (by kernel_rfl) (by kernel_rfl) (by kernel_rfl) (by kernel_rfl) (hasn_own R2 R2.length (rfl) (by first | omega | decide) px py) (.cons (.slice _ _ _ _ _ (by decide)) (.cons (.flatB (by kernel_rfl)) .nil)) ⟨rfl, ⟨rfl, rfl, rfl, (.flats (flats_pair _))⟩, trivial⟩ (by kernel_rfl) (by kernel_rfl) (by kernel_rfl) ⟨rfl, ⟨rfl, rfl, rfl, (.flats (flats_pair _))⟩, trivial⟩ (.flatB (by kernel_rfl))) <| .nil _ _) ?_
      refine aw_bl 2 15343 ?_
      refine aw_p 30687 (
        .a 2 4 <| .nil _ _) ?_
      refine aw_cd 61374 61375 ((Sp.hasF R2 (Sp.lim 1048576 px) (Sp.lim 1048576 py) 0 (-1)) == 0) (fun h5 => ?_) (fun h5 => ?_)
      · have h5p : (((Sp.hasF R2 (Sp.lim 1048576 px) (Sp.lim 1048576 py) 0 (-1)) = 0)) := by first | (simpa using h5) | (have h5q := h5; simp at h5q; omega) | (have h5q := bx1 h5; simp at h5q; omega)
        refine aw_p 122749 (
          .a 1 4 <| .nil _ _) ?_
        refine aw_rt ?_
        refine block_ret ?_
        refine block_ret ?_
        refine then_ret ?_
        refine then_ret ?_
        refine block_ret ?_
        refine then_ret ?_
        exact en_ret [.int .i64 0] (show (.int .i64 0 : Value) = (.int .i64 (Sp.ahF [Sp.hasF R1 (Sp.lim 1048576 px) (Sp.lim 1048576 py) 0 (-1), Sp.hasF R2 (Sp.lim 1048576 px) (Sp.lim 1048576 py) 0 (-1)] (-1))) from (congrArg (Value.int .i64) (show 0 = (Sp.ahF [Sp.hasF R1 (Sp.lim 1048576 px) (Sp.lim 1048576 py) 0 (-1), Sp.hasF R2 (Sp.lim 1048576 px) (Sp.lim 1048576 py) 0 (-1)] (-1)) from by (simp [Sp.ahF, *]))))
      · have h5p : ¬ (((Sp.hasF R2 (Sp.lim 1048576 px) (Sp.lim 1048576 py) 0 (-1)) = 0)) := by first | (simpa using h5) | (have h5q := h5; simp at h5q; omega) | (have h5q := bx2 h5; simp at h5q; omega)
        refine aw_p 122751 (
          .a 2 4 <| .nil _ _) ?_
        refine aw_cd 245502 245503 ((Sp.hasF R2 (Sp.lim 1048576 px) (Sp.lim 1048576 py) 0 (-1)) == 1) (fun h6 => ?_) (fun h6 => ?_)
        · have h6p : (((Sp.hasF R2 (Sp.lim 1048576 px) (Sp.lim 1048576 py) 0 (-1)) = 1)) := by first | (simpa using h6) | (have h6q := h6; simp at h6q; omega) | (have h6q := bx1 h6; simp at h6q; omega)
          refine aw_p1 (
            .a 3 4 <| .nil _ _) ?_
          refine block_normal ?_
          refine block_normal ?_
          refine then_normal ?_
          refine aw_p1 (
            .a 2 4 <| .nil _ _) ?_
          refine then_normal ?_
          refine al_round ?_
          refine aw_p 239 (
            .a 1 4 <| .nil _ _) ?_
          refine aw_sq 478 479 ?_
          refine aw_fl 957 ?_
          refine aw_ex 0 ?_
          refine then_exit ?_
          refine then_exit ?_
          refine block_exit ?_
          refine then_normal ?_
          refine aw_p 31 (
            .a 2 4 <| .nil _ _) ?_
          refine aw_rt ?_
          exact en_ret [.int .i64 1] (show (.int .i64 1 : Value) = (.int .i64 (Sp.ahF [Sp.hasF R1 (Sp.lim 1048576 px) (Sp.lim 1048576 py) 0 (-1), Sp.hasF R2 (Sp.lim 1048576 px) (Sp.lim 1048576 py) 0 (-1)] (-1))) from (congrArg (Value.int .i64) (show 1 = (Sp.ahF [Sp.hasF R1 (Sp.lim 1048576 px) (Sp.lim 1048576 py) 0 (-1), Sp.hasF R2 (Sp.lim 1048576 px) (Sp.lim 1048576 py) 0 (-1)] (-1)) from by (simp [Sp.ahF, *]))))
        · have h6p : ¬ (((Sp.hasF R2 (Sp.lim 1048576 px) (Sp.lim 1048576 py) 0 (-1)) = 1)) := by first | (simpa using h6) | (have h6q := h6; simp at h6q; omega) | (have h6q := bx2 h6; simp at h6q; omega)
          refine aw_sk ?_
          refine block_normal ?_
          refine block_normal ?_
          refine then_normal ?_
          refine aw_p1 (
            .a 2 4 <| .nil _ _) ?_
          refine then_normal ?_
          refine al_round ?_
          refine aw_p 239 (
            .a 1 4 <| .nil _ _) ?_
          refine aw_sq 478 479 ?_
          refine aw_fl 957 ?_
          refine aw_ex 0 ?_
          refine then_exit ?_
          refine then_exit ?_
          refine block_exit ?_
          refine then_normal ?_
          refine aw_p 31 (
            .a 2 4 <| .nil _ _) ?_
          refine aw_rt ?_
          exact en_ret [.int .i64 (-1)] (show (.int .i64 (-1) : Value) = (.int .i64 (Sp.ahF [Sp.hasF R1 (Sp.lim 1048576 px) (Sp.lim 1048576 py) 0 (-1), Sp.hasF R2 (Sp.lim 1048576 px) (Sp.lim 1048576 py) 0 (-1)] (-1))) from (congrArg (Value.int .i64) (show (-1) = (Sp.ahF [Sp.hasF R1 (Sp.lim 1048576 px) (Sp.lim 1048576 py) 0 (-1), Sp.hasF R2 (Sp.lim 1048576 px) (Sp.lim 1048576 py) 0 (-1)] (-1)) from by (simp [Sp.ahF, *]))))

theorem ahas_3 (R1 R2 R3 : List (Int × Int)) (zR1 : 1 ≤ R1.length ∧ R1.length ≤ 200) (fR1 : Sp.Few 1000 R1) (zR2 : 1 ≤ R2.length ∧ R2.length ≤ 200) (fR2 : Sp.Few 1000 R2) (zR3 : 1 ≤ R3.length ∧ R3.length ≤ 200) (fR3 : Sp.Few 1000 R3) (px py : Int) :
    AC Try.prog 12 4 ([.slice (some ⟨0, 0, none⟩) 3 0, .agg #[.int .i64 px, .int .i64 py]]) [(0, ⟨[.slice (some ⟨1, 0, none⟩) R1.length 0, .slice (some ⟨2, 0, none⟩) R2.length 0, .slice (some ⟨3, 0, none⟩) R3.length 0], 30, true, 1⟩), (1, ⟨(R1.flatMap ptc), 28, true, 2⟩), (2, ⟨(R2.flatMap ptc), 28, true, 2⟩), (3, ⟨(R3.flatMap ptc), 28, true, 2⟩)] (.int .i64 (Sp.ahF [Sp.hasF R1 (Sp.lim 1048576 px) (Sp.lim 1048576 py) 0 (-1), Sp.hasF R2 (Sp.lim 1048576 px) (Sp.lim 1048576 py) 0 (-1), Sp.hasF R3 (Sp.lim 1048576 px) (Sp.lim 1048576 py) 0 (-1)] (-1))) [(0, ⟨[.slice (some ⟨1, 0, none⟩) R1.length 0, .slice (some ⟨2, 0, none⟩) R2.length 0, .slice (some ⟨3, 0, none⟩) R3.length 0], 30, true, 1⟩), (1, ⟨(R1.flatMap ptc), 28, true, 2⟩), (2, ⟨(R2.flatMap ptc), 28, true, 2⟩), (3, ⟨(R3.flatMap ptc), 28, true, 2⟩)] := by
  refine ac_in Try.func12 (fun w0 W pin => ?_)
  refine aw_p 3 (
    .a 2 4 <| .nil _ _) ?_
  refine aw_p 7 (
    .a 1 5 <| .nil _ _) ?_
  refine aw_sq 14 15 ?_
  refine aw_p 29 (
    .a 3 5 <| .nil _ _) ?_
  refine aw_bl 0 59 ?_
  refine aw_lp 119 ?_
  refine al_round ?_
  refine aw_p 239 (
    .a 1 5 <| .nil _ _) ?_
  refine aw_sq 478 479 ?_
  refine aw_tr 956 ?_
  refine aw_sk ?_
  refine then_normal ?_
  refine aw_sq 958 959 ?_
  refine aw_bl 1 1917 ?_
  refine aw_p 3835 (
    .a 3 5 <| .nil _ _) ?_
  refine aw_p 7671 (
    .a 2 5 <|
    .p (does_callB (x := .func 11) (ars := #[.tmp 14, .tmp 15]) (ats := #[30, 28]) (g := 11) (vs := [.slice (some ⟨1, 0, none⟩) R1.length 0, .agg #[.int .i64 px, .int .i64 py]]) (m := 1) (r := 0) (firsts := #[]) (caps := #[]) (args0 := [.slice (some ⟨0, 0, none⟩) R1.length 0, .agg #[.int .i64 px, .int .i64 py]]) (pre0 := [(0, ⟨(R1.flatMap ptc), 28, true, 2⟩)]) (post0 := [(0, ⟨(R1.flatMap ptc), 28, true, 2⟩)]) (pre := [(1, ⟨(R1.flatMap ptc), 28, true, 2⟩)]) (post := [(1, ⟨(R1.flatMap ptc), 28, true, 2⟩)]) (v0 := .int .i64 (Sp.hasF R1 (Sp.lim 1048576 px) (Sp.lim 1048576 py) 0 (-1))) (v := .int .i64 (Sp.hasF R1 (Sp.lim 1048576 px) (Sp.lim 1048576 py) 0 (-1))) [1] (by kernel_rfl) (by kernel_rfl) (by kernel_rfl) (by kernel_rfl) (hasn_own R1 R1.length (rfl) (by first | omega | decide) px py) (.cons (.slice _ _ _ _ _ (by decide)) (.cons (.flatB (by kernel_rfl)) .nil)) ⟨rfl, ⟨rfl, rfl, rfl, (.flats (flats_pair _))⟩, trivial⟩ (by kernel_rfl) (by kernel_rfl) (by kernel_rfl) ⟨rfl, ⟨rfl, rfl, rfl, (.flats (flats_pair _))⟩, trivial⟩ (.flatB (by kernel_rfl))) <| .nil _ _) ?_
  refine aw_bl 2 15343 ?_
  refine aw_p 30687 (
    .a 2 5 <| .nil _ _) ?_
  refine aw_cd 61374 61375 ((Sp.hasF R1 (Sp.lim 1048576 px) (Sp.lim 1048576 py) 0 (-1)) == 0) (fun h1 => ?_) (fun h1 => ?_)
  · have h1p : (((Sp.hasF R1 (Sp.lim 1048576 px) (Sp.lim 1048576 py) 0 (-1)) = 0)) := by first | (simpa using h1) | (have h1q := h1; simp at h1q; omega) | (have h1q := bx1 h1; simp at h1q; omega)
    refine aw_p 122749 (
      .a 1 5 <| .nil _ _) ?_
    refine aw_rt ?_
    refine block_ret ?_
    refine block_ret ?_
    refine then_ret ?_
    refine then_ret ?_
    refine block_ret ?_
    refine then_ret ?_
    exact en_ret [.int .i64 0] (show (.int .i64 0 : Value) = (.int .i64 (Sp.ahF [Sp.hasF R1 (Sp.lim 1048576 px) (Sp.lim 1048576 py) 0 (-1), Sp.hasF R2 (Sp.lim 1048576 px) (Sp.lim 1048576 py) 0 (-1), Sp.hasF R3 (Sp.lim 1048576 px) (Sp.lim 1048576 py) 0 (-1)] (-1))) from (congrArg (Value.int .i64) (show 0 = (Sp.ahF [Sp.hasF R1 (Sp.lim 1048576 px) (Sp.lim 1048576 py) 0 (-1), Sp.hasF R2 (Sp.lim 1048576 px) (Sp.lim 1048576 py) 0 (-1), Sp.hasF R3 (Sp.lim 1048576 px) (Sp.lim 1048576 py) 0 (-1)] (-1)) from by (simp [Sp.ahF, *]))))
  · have h1p : ¬ (((Sp.hasF R1 (Sp.lim 1048576 px) (Sp.lim 1048576 py) 0 (-1)) = 0)) := by first | (simpa using h1) | (have h1q := h1; simp at h1q; omega) | (have h1q := bx2 h1; simp at h1q; omega)
    refine aw_p 122751 (
      .a 2 5 <| .nil _ _) ?_
    refine aw_cd 245502 245503 ((Sp.hasF R1 (Sp.lim 1048576 px) (Sp.lim 1048576 py) 0 (-1)) == 1) (fun h2 => ?_) (fun h2 => ?_)
    · have h2p : (((Sp.hasF R1 (Sp.lim 1048576 px) (Sp.lim 1048576 py) 0 (-1)) = 1)) := by first | (simpa using h2) | (have h2q := h2; simp at h2q; omega) | (have h2q := bx1 h2; simp at h2q; omega)
      refine aw_p1 (
        .a 3 5 <| .nil _ _) ?_
      refine block_normal ?_
      refine block_normal ?_
      refine then_normal ?_
      refine aw_p1 (
        .a 2 5 <| .nil _ _) ?_
      refine then_normal ?_
      refine al_round ?_
      refine aw_p 239 (
        .a 1 5 <| .nil _ _) ?_
      refine aw_sq 478 479 ?_
      refine aw_tr 956 ?_
      refine aw_sk ?_
      refine then_normal ?_
      refine aw_sq 958 959 ?_
      refine aw_bl 1 1917 ?_
      refine aw_p 3835 (
        .a 3 5 <| .nil _ _) ?_
      refine aw_p 7671 (
        .a 2 5 <|
        .p (does_callB (x := .func 11) (ars := #[.tmp 14, .tmp 15]) (ats := #[30, 28]) (g := 11) (vs := [.slice (some ⟨2, 0, none⟩) R2.length 0, .agg #[.int .i64 px, .int .i64 py]]) (m := 1) (r := 0) (firsts := #[]) (caps := #[]) (args0 := [.slice (some ⟨0, 0, none⟩) R2.length 0, .agg #[.int .i64 px, .int .i64 py]]) (pre0 := [(0, ⟨(R2.flatMap ptc), 28, true, 2⟩)]) (post0 := [(0, ⟨(R2.flatMap ptc), 28, true, 2⟩)]) (pre := [(2, ⟨(R2.flatMap ptc), 28, true, 2⟩)]) (post := [(2, ⟨(R2.flatMap ptc), 28, true, 2⟩)]) (v0 := .int .i64 (Sp.hasF R2 (Sp.lim 1048576 px) (Sp.lim 1048576 py) 0 (-1))) (v := .int .i64 (Sp.hasF R2 (Sp.lim 1048576 px) (Sp.lim 1048576 py) 0 (-1))) [2] (by kernel_rfl) (by kernel_rfl) (by kernel_rfl) (by kernel_rfl) (hasn_own R2 R2.length (rfl) (by first | omega | decide) px py) (.cons (.slice _ _ _ _ _ (by decide)) (.cons (.flatB (by kernel_rfl)) .nil)) ⟨rfl, ⟨rfl, rfl, rfl, (.flats (flats_pair _))⟩, trivial⟩ (by kernel_rfl) (by kernel_rfl) (by kernel_rfl) ⟨rfl, ⟨rfl, rfl, rfl, (.flats (flats_pair _))⟩, trivial⟩ (.flatB (by kernel_rfl))) <| .nil _ _) ?_
      refine aw_bl 2 15343 ?_
      refine aw_p 30687 (
        .a 2 5 <| .nil _ _) ?_
      refine aw_cd 61374 61375 ((Sp.hasF R2 (Sp.lim 1048576 px) (Sp.lim 1048576 py) 0 (-1)) == 0) (fun h3 => ?_) (fun h3 => ?_)
      · have h3p : (((Sp.hasF R2 (Sp.lim 1048576 px) (Sp.lim 1048576 py) 0 (-1)) = 0)) := by first | (simpa using h3) | (have h3q := h3; simp at h3q; omega) | (have h3q := bx1 h3; simp at h3q; omega)
        refine aw_p 122749 (
          .a 1 5 <| .nil _ _) ?_
        refine aw_rt ?_
        refine block_ret ?_
        refine block_ret ?_
        refine then_ret ?_
        refine then_ret ?_
        refine block_ret ?_
        refine then_ret ?_
        exact en_ret [.int .i64 0] (show (.int .i64 0 : Value) = (.int .i64 (Sp.ahF [Sp.hasF R1 (Sp.lim 1048576 px) (Sp.lim 1048576 py) 0 (-1), Sp.hasF R2 (Sp.lim 1048576 px) (Sp.lim 1048576 py) 0 (-1), Sp.hasF R3 (Sp.lim 1048576 px) (Sp.lim 1048576 py) 0 (-1)] (-1))) from (congrArg (Value.int .i64) (show 0 = (Sp.ahF [Sp.hasF R1 (Sp.lim 1048576 px) (Sp.lim 1048576 py) 0 (-1), Sp.hasF R2 (Sp.lim 1048576 px) (Sp.lim 1048576 py) 0 (-1), Sp.hasF R3 (Sp.lim 1048576 px) (Sp.lim 1048576 py) 0 (-1)] (-1)) from by (simp [Sp.ahF, *]))))
      · have h3p : ¬ (((Sp.hasF R2 (Sp.lim 1048576 px) (Sp.lim 1048576 py) 0 (-1)) = 0)) := by first | (simpa using h3) | (have h3q := h3; simp at h3q; omega) | (have h3q := bx2 h3; simp at h3q; omega)
        refine aw_p 122751 (
          .a 2 5 <| .nil _ _) ?_
        refine aw_cd 245502 245503 ((Sp.hasF R2 (Sp.lim 1048576 px) (Sp.lim 1048576 py) 0 (-1)) == 1) (fun h4 => ?_) (fun h4 => ?_)
        · have h4p : (((Sp.hasF R2 (Sp.lim 1048576 px) (Sp.lim 1048576 py) 0 (-1)) = 1)) := by first | (simpa using h4) | (have h4q := h4; simp at h4q; omega) | (have h4q := bx1 h4; simp at h4q; omega)
          refine aw_p1 (
            .a 3 5 <| .nil _ _) ?_
          refine block_normal ?_
          refine block_normal ?_
          refine then_normal ?_
          refine aw_p1 (
            .a 2 5 <| .nil _ _) ?_
          refine then_normal ?_
          refine al_round ?_
          refine aw_p 239 (
            .a 1 5 <| .nil _ _) ?_
          refine aw_sq 478 479 ?_
          refine aw_tr 956 ?_
          refine aw_sk ?_
          refine then_normal ?_
          refine aw_sq 958 959 ?_
          refine aw_bl 1 1917 ?_
          refine aw_p 3835 (
            .a 3 5 <| .nil _ _) ?_
          refine aw_p 7671 (
            .a 2 5 <|
            .p (does_callB (x := .func 11) (ars := #[.tmp 14, .tmp 15]) (ats := #[30, 28]) (g := 11) (vs := [.slice (some ⟨3, 0, none⟩) R3.length 0, .agg #[.int .i64 px, .int .i64 py]]) (m := 1) (r := 0) (firsts := #[]) (caps := #[]) (args0 := [.slice (some ⟨0, 0, none⟩) R3.length 0, .agg #[.int .i64 px, .int .i64 py]]) (pre0 := [(0, ⟨(R3.flatMap ptc), 28, true, 2⟩)]) (post0 := [(0, ⟨(R3.flatMap ptc), 28, true, 2⟩)]) (pre := [(3, ⟨(R3.flatMap ptc), 28, true, 2⟩)]) (post := [(3, ⟨(R3.flatMap ptc), 28, true, 2⟩)]) (v0 := .int .i64 (Sp.hasF R3 (Sp.lim 1048576 px) (Sp.lim 1048576 py) 0 (-1))) (v := .int .i64 (Sp.hasF R3 (Sp.lim 1048576 px) (Sp.lim 1048576 py) 0 (-1))) [3] (by kernel_rfl) (by kernel_rfl) (by kernel_rfl) (by kernel_rfl) (hasn_own R3 R3.length (rfl) (by first | omega | decide) px py) (.cons (.slice _ _ _ _ _ (by decide)) (.cons (.flatB (by kernel_rfl)) .nil)) ⟨rfl, ⟨rfl, rfl, rfl, (.flats (flats_pair _))⟩, trivial⟩ (by kernel_rfl) (by kernel_rfl) (by kernel_rfl) ⟨rfl, ⟨rfl, rfl, rfl, (.flats (flats_pair _))⟩, trivial⟩ (.flatB (by kernel_rfl))) <| .nil _ _) ?_
          refine aw_bl 2 15343 ?_
          refine aw_p 30687 (
            .a 2 5 <| .nil _ _) ?_
          refine aw_cd 61374 61375 ((Sp.hasF R3 (Sp.lim 1048576 px) (Sp.lim 1048576 py) 0 (-1)) == 0) (fun h5 => ?_) (fun h5 => ?_)
          · have h5p : (((Sp.hasF R3 (Sp.lim 1048576 px) (Sp.lim 1048576 py) 0 (-1)) = 0)) := by first | (simpa using h5) | (have h5q := h5; simp at h5q; omega) | (have h5q := bx1 h5; simp at h5q; omega)
            refine aw_p 122749 (
              .a 1 5 <| .nil _ _) ?_
            refine aw_rt ?_
            refine block_ret ?_
            refine block_ret ?_
            refine then_ret ?_
            refine then_ret ?_
            refine block_ret ?_
            refine then_ret ?_
            exact en_ret [.int .i64 0] (show (.int .i64 0 : Value) = (.int .i64 (Sp.ahF [Sp.hasF R1 (Sp.lim 1048576 px) (Sp.lim 1048576 py) 0 (-1), Sp.hasF R2 (Sp.lim 1048576 px) (Sp.lim 1048576 py) 0 (-1), Sp.hasF R3 (Sp.lim 1048576 px) (Sp.lim 1048576 py) 0 (-1)] (-1))) from (congrArg (Value.int .i64) (show 0 = (Sp.ahF [Sp.hasF R1 (Sp.lim 1048576 px) (Sp.lim 1048576 py) 0 (-1), Sp.hasF R2 (Sp.lim 1048576 px) (Sp.lim 1048576 py) 0 (-1), Sp.hasF R3 (Sp.lim 1048576 px) (Sp.lim 1048576 py) 0 (-1)] (-1)) from by (simp [Sp.ahF, *]))))
          · have h5p : ¬ (((Sp.hasF R3 (Sp.lim 1048576 px) (Sp.lim 1048576 py) 0 (-1)) = 0)) := by first | (simpa using h5) | (have h5q := h5; simp at h5q; omega) | (have h5q := bx2 h5; simp at h5q; omega)
            refine aw_p 122751 (
              .a 2 5 <| .nil _ _) ?_
            refine aw_cd 245502 245503 ((Sp.hasF R3 (Sp.lim 1048576 px) (Sp.lim 1048576 py) 0 (-1)) == 1) (fun h6 => ?_) (fun h6 => ?_)
            · have h6p : (((Sp.hasF R3 (Sp.lim 1048576 px) (Sp.lim 1048576 py) 0 (-1)) = 1)) := by first | (simpa using h6) | (have h6q := h6; simp at h6q; omega) | (have h6q := bx1 h6; simp at h6q; omega)
              refine aw_p1 (
                .a 3 5 <| .nil _ _) ?_
              refine block_normal ?_
              refine block_normal ?_
              refine then_normal ?_
              refine aw_p1 (
                .a 2 5 <| .nil _ _) ?_
              refine then_normal ?_
              refine al_round ?_
              refine aw_p 239 (
                .a 1 5 <| .nil _ _) ?_
              refine aw_sq 478 479 ?_
              refine aw_fl 957 ?_
              refine aw_ex 0 ?_
              refine then_exit ?_
              refine then_exit ?_
              refine block_exit ?_
              refine then_normal ?_
              refine aw_p 31 (
                .a 2 5 <| .nil _ _) ?_
              refine aw_rt ?_
              exact en_ret [.int .i64 1] (show (.int .i64 1 : Value) = (.int .i64 (Sp.ahF [Sp.hasF R1 (Sp.lim 1048576 px) (Sp.lim 1048576 py) 0 (-1), Sp.hasF R2 (Sp.lim 1048576 px) (Sp.lim 1048576 py) 0 (-1), Sp.hasF R3 (Sp.lim 1048576 px) (Sp.lim 1048576 py) 0 (-1)] (-1))) from (congrArg (Value.int .i64) (show 1 = (Sp.ahF [Sp.hasF R1 (Sp.lim 1048576 px) (Sp.lim 1048576 py) 0 (-1), Sp.hasF R2 (Sp.lim 1048576 px) (Sp.lim 1048576 py) 0 (-1), Sp.hasF R3 (Sp.lim 1048576 px) (Sp.lim 1048576 py) 0 (-1)] (-1)) from by (simp [Sp.ahF, *]))))
            · have h6p : ¬ (((Sp.hasF R3 (Sp.lim 1048576 px) (Sp.lim 1048576 py) 0 (-1)) = 1)) := by first | (simpa using h6) | (have h6q := h6; simp at h6q; omega) | (have h6q := bx2 h6; simp at h6q; omega)
              refine aw_sk ?_
              refine block_normal ?_
              refine block_normal ?_
              refine then_normal ?_
              refine aw_p1 (
                .a 2 5 <| .nil _ _) ?_
              refine then_normal ?_
              refine al_round ?_
              refine aw_p 239 (
                .a 1 5 <| .nil _ _) ?_
              refine aw_sq 478 479 ?_
              refine aw_fl 957 ?_
              refine aw_ex 0 ?_
              refine then_exit ?_
              refine then_exit ?_
              refine block_exit ?_
              refine then_normal ?_
              refine aw_p 31 (
                .a 2 5 <| .nil _ _) ?_
              refine aw_rt ?_
              exact en_ret [.int .i64 (-1)] (show (.int .i64 (-1) : Value) = (.int .i64 (Sp.ahF [Sp.hasF R1 (Sp.lim 1048576 px) (Sp.lim 1048576 py) 0 (-1), Sp.hasF R2 (Sp.lim 1048576 px) (Sp.lim 1048576 py) 0 (-1), Sp.hasF R3 (Sp.lim 1048576 px) (Sp.lim 1048576 py) 0 (-1)] (-1))) from (congrArg (Value.int .i64) (show (-1) = (Sp.ahF [Sp.hasF R1 (Sp.lim 1048576 px) (Sp.lim 1048576 py) 0 (-1), Sp.hasF R2 (Sp.lim 1048576 px) (Sp.lim 1048576 py) 0 (-1), Sp.hasF R3 (Sp.lim 1048576 px) (Sp.lim 1048576 py) 0 (-1)] (-1)) from by (simp [Sp.ahF, *]))))
        · have h4p : ¬ (((Sp.hasF R2 (Sp.lim 1048576 px) (Sp.lim 1048576 py) 0 (-1)) = 1)) := by first | (simpa using h4) | (have h4q := h4; simp at h4q; omega) | (have h4q := bx2 h4; simp at h4q; omega)
          refine aw_sk ?_
          refine block_normal ?_
          refine block_normal ?_
          refine then_normal ?_
          refine aw_p1 (
            .a 2 5 <| .nil _ _) ?_
          refine then_normal ?_
          refine al_round ?_
          refine aw_p 239 (
            .a 1 5 <| .nil _ _) ?_
          refine aw_sq 478 479 ?_
          refine aw_tr 956 ?_
          refine aw_sk ?_
          refine then_normal ?_
          refine aw_sq 958 959 ?_
          refine aw_bl 1 1917 ?_
          refine aw_p 3835 (
            .a 3 5 <| .nil _ _) ?_
          refine aw_p 7671 (
            .a 2 5 <|
            .p (does_callB (x := .func 11) (ars := #[.tmp 14, .tmp 15]) (ats := #[30, 28]) (g := 11) (vs := [.slice (some ⟨3, 0, none⟩) R3.length 0, .agg #[.int .i64 px, .int .i64 py]]) (m := 1) (r := 0) (firsts := #[]) (caps := #[]) (args0 := [.slice (some ⟨0, 0, none⟩) R3.length 0, .agg #[.int .i64 px, .int .i64 py]]) (pre0 := [(0, ⟨(R3.flatMap ptc), 28, true, 2⟩)]) (post0 := [(0, ⟨(R3.flatMap ptc), 28, true, 2⟩)]) (pre := [(3, ⟨(R3.flatMap ptc), 28, true, 2⟩)]) (post := [(3, ⟨(R3.flatMap ptc), 28, true, 2⟩)]) (v0 := .int .i64 (Sp.hasF R3 (Sp.lim 1048576 px) (Sp.lim 1048576 py) 0 (-1))) (v := .int .i64 (Sp.hasF R3 (Sp.lim 1048576 px) (Sp.lim 1048576 py) 0 (-1))) [3] (by kernel_rfl) (by kernel_rfl) (by kernel_rfl) (by kernel_rfl) (hasn_own R3 R3.length (rfl) (by first | omega | decide) px py) (.cons (.slice _ _ _ _ _ (by decide)) (.cons (.flatB (by kernel_rfl)) .nil)) ⟨rfl, ⟨rfl, rfl, rfl, (.flats (flats_pair _))⟩, trivial⟩ (by kernel_rfl) (by kernel_rfl) (by kernel_rfl) ⟨rfl, ⟨rfl, rfl, rfl, (.flats (flats_pair _))⟩, trivial⟩ (.flatB (by kernel_rfl))) <| .nil _ _) ?_
          refine aw_bl 2 15343 ?_
          refine aw_p 30687 (
            .a 2 5 <| .nil _ _) ?_
          refine aw_cd 61374 61375 ((Sp.hasF R3 (Sp.lim 1048576 px) (Sp.lim 1048576 py) 0 (-1)) == 0) (fun h7 => ?_) (fun h7 => ?_)
          · have h7p : (((Sp.hasF R3 (Sp.lim 1048576 px) (Sp.lim 1048576 py) 0 (-1)) = 0)) := by first | (simpa using h7) | (have h7q := h7; simp at h7q; omega) | (have h7q := bx1 h7; simp at h7q; omega)
            refine aw_p 122749 (
              .a 1 5 <| .nil _ _) ?_
            refine aw_rt ?_
            refine block_ret ?_
            refine block_ret ?_
            refine then_ret ?_
            refine then_ret ?_
            refine block_ret ?_
            refine then_ret ?_
            exact en_ret [.int .i64 0] (show (.int .i64 0 : Value) = (.int .i64 (Sp.ahF [Sp.hasF R1 (Sp.lim 1048576 px) (Sp.lim 1048576 py) 0 (-1), Sp.hasF R2 (Sp.lim 1048576 px) (Sp.lim 1048576 py) 0 (-1), Sp.hasF R3 (Sp.lim 1048576 px) (Sp.lim 1048576 py) 0 (-1)] (-1))) from (congrArg (Value.int .i64) (show 0 = (Sp.ahF [Sp.hasF R1 (Sp.lim 1048576 px) (Sp.lim 1048576 py) 0 (-1), Sp.hasF R2 (Sp.lim 1048576 px) (Sp.lim 1048576 py) 0 (-1), Sp.hasF R3 (Sp.lim 1048576 px) (Sp.lim 1048576 py) 0 (-1)] (-1)) from by (simp [Sp.ahF, *]))))
          · have h7p : ¬ (((Sp.hasF R3 (Sp.lim 1048576 px) (Sp.lim 1048576 py) 0 (-1)) = 0)) := by first | (simpa using h7) | (have h7q := h7; simp at h7q; omega) | (have h7q := bx2 h7; simp at h7q; omega)
            refine aw_p 122751 (
              .a 2 5 <| .nil _ _) ?_
            refine aw_cd 245502 245503 ((Sp.hasF R3 (Sp.lim 1048576 px) (Sp.lim 1048576 py) 0 (-1)) == 1) (fun h8 => ?_) (fun h8 => ?_)
            · have h8p : (((Sp.hasF R3 (Sp.lim 1048576 px) (Sp.lim 1048576 py) 0 (-1)) = 1)) := by first | (simpa using h8) | (have h8q := h8; simp at h8q; omega) | (have h8q := bx1 h8; simp at h8q; omega)
              refine aw_p1 (
                .a 3 5 <| .nil _ _) ?_
              refine block_normal ?_
              refine block_normal ?_
              refine then_normal ?_
              refine aw_p1 (
                .a 2 5 <| .nil _ _) ?_
              refine then_normal ?_
              refine al_round ?_
              refine aw_p 239 (
                .a 1 5 <| .nil _ _) ?_
              refine aw_sq 478 479 ?_
              refine aw_fl 957 ?_
              refine aw_ex 0 ?_
              refine then_exit ?_
              refine then_exit ?_
              refine block_exit ?_
              refine then_normal ?_
              refine aw_p 31 (
                .a 2 5 <| .nil _ _) ?_
              refine aw_rt ?_
              exact en_ret [.int .i64 (-1)] (show (.int .i64 (-1) : Value) = (.int .i64 (Sp.ahF [Sp.hasF R1 (Sp.lim 1048576 px) (Sp.lim 1048576 py) 0 (-1), Sp.hasF R2 (Sp.lim 1048576 px) (Sp.lim 1048576 py) 0 (-1), Sp.hasF R3 (Sp.lim 1048576 px) (Sp.lim 1048576 py) 0 (-1)] (-1))) from (congrArg (Value.int .i64) (show (-1) = (Sp.ahF [Sp.hasF R1 (Sp.lim 1048576 px) (Sp.lim 1048576 py) 0 (-1), Sp.hasF R2 (Sp.lim 1048576 px) (Sp.lim 1048576 py) 0 (-1), Sp.hasF R3 (Sp.lim 1048576 px) (Sp.lim 1048576 py) 0 (-1)] (-1)) from by (simp [Sp.ahF, *]))))
            · have h8p : ¬ (((Sp.hasF R3 (Sp.lim 1048576 px) (Sp.lim 1048576 py) 0 (-1)) = 1)) := by first | (simpa using h8) | (have h8q := h8; simp at h8q; omega) | (have h8q := bx2 h8; simp at h8q; omega)
              refine aw_sk ?_
              refine block_normal ?_
              refine block_normal ?_
              refine then_normal ?_
              refine aw_p1 (
                .a 2 5 <| .nil _ _) ?_
              refine then_normal ?_
              refine al_round ?_
              refine aw_p 239 (
                .a 1 5 <| .nil _ _) ?_
              refine aw_sq 478 479 ?_
              refine aw_fl 957 ?_
              refine aw_ex 0 ?_
              refine then_exit ?_
              refine then_exit ?_
              refine block_exit ?_
              refine then_normal ?_
              refine aw_p 31 (
                .a 2 5 <| .nil _ _) ?_
              refine aw_rt ?_
              exact en_ret [.int .i64 1] (show (.int .i64 1 : Value) = (.int .i64 (Sp.ahF [Sp.hasF R1 (Sp.lim 1048576 px) (Sp.lim 1048576 py) 0 (-1), Sp.hasF R2 (Sp.lim 1048576 px) (Sp.lim 1048576 py) 0 (-1), Sp.hasF R3 (Sp.lim 1048576 px) (Sp.lim 1048576 py) 0 (-1)] (-1))) from (congrArg (Value.int .i64) (show 1 = (Sp.ahF [Sp.hasF R1 (Sp.lim 1048576 px) (Sp.lim 1048576 py) 0 (-1), Sp.hasF R2 (Sp.lim 1048576 px) (Sp.lim 1048576 py) 0 (-1), Sp.hasF R3 (Sp.lim 1048576 px) (Sp.lim 1048576 py) 0 (-1)] (-1)) from by (simp [Sp.ahF, *]))))
    · have h2p : ¬ (((Sp.hasF R1 (Sp.lim 1048576 px) (Sp.lim 1048576 py) 0 (-1)) = 1)) := by first | (simpa using h2) | (have h2q := h2; simp at h2q; omega) | (have h2q := bx2 h2; simp at h2q; omega)
      refine aw_sk ?_
      refine block_normal ?_
      refine block_normal ?_
      refine then_normal ?_
      refine aw_p1 (
        .a 2 5 <| .nil _ _) ?_
      refine then_normal ?_
      refine al_round ?_
      refine aw_p 239 (
        .a 1 5 <| .nil _ _) ?_
      refine aw_sq 478 479 ?_
      refine aw_tr 956 ?_
      refine aw_sk ?_
      refine then_normal ?_
      refine aw_sq 958 959 ?_
      refine aw_bl 1 1917 ?_
      refine aw_p 3835 (
        .a 3 5 <| .nil _ _) ?_
      refine aw_p 7671 (
        .a 2 5 <|
        .p (does_callB (x := .func 11) (ars := #[.tmp 14, .tmp 15]) (ats := #[30, 28]) (g := 11) (vs := [.slice (some ⟨2, 0, none⟩) R2.length 0, .agg #[.int .i64 px, .int .i64 py]]) (m := 1) (r := 0) (firsts := #[]) (caps := #[]) (args0 := [.slice (some ⟨0, 0, none⟩) R2.length 0, .agg #[.int .i64 px, .int .i64 py]]) (pre0 := [(0, ⟨(R2.flatMap ptc), 28, true, 2⟩)]) (post0 := [(0, ⟨(R2.flatMap ptc), 28, true, 2⟩)]) (pre := [(2, ⟨(R2.flatMap ptc), 28, true, 2⟩)]) (post := [(2, ⟨(R2.flatMap ptc), 28, true, 2⟩)]) (v0 := .int .i64 (Sp.hasF R2 (Sp.lim 1048576 px) (Sp.lim 1048576 py) 0 (-1))) (v := .int .i64 (Sp.hasF R2 (Sp.lim 1048576 px) (Sp.lim 1048576 py) 0 (-1))) [2] (by kernel_rfl) (by kernel_rfl) (by kernel_rfl) (by kernel_rfl) (hasn_own R2 R2.length (rfl) (by first | omega | decide) px py) (.cons (.slice _ _ _ _ _ (by decide)) (.cons (.flatB (by kernel_rfl)) .nil)) ⟨rfl, ⟨rfl, rfl, rfl, (.flats (flats_pair _))⟩, trivial⟩ (by kernel_rfl) (by kernel_rfl) (by kernel_rfl) ⟨rfl, ⟨rfl, rfl, rfl, (.flats (flats_pair _))⟩, trivial⟩ (.flatB (by kernel_rfl))) <| .nil _ _) ?_
      refine aw_bl 2 15343 ?_
      refine aw_p 30687 (
        .a 2 5 <| .nil _ _) ?_
      refine aw_cd 61374 61375 ((Sp.hasF R2 (Sp.lim 1048576 px) (Sp.lim 1048576 py) 0 (-1)) == 0) (fun h9 => ?_) (fun h9 => ?_)
      · have h9p : (((Sp.hasF R2 (Sp.lim 1048576 px) (Sp.lim 1048576 py) 0 (-1)) = 0)) := by first | (simpa using h9) | (have h9q := h9; simp at h9q; omega) | (have h9q := bx1 h9; simp at h9q; omega)
        refine aw_p 122749 (
          .a 1 5 <| .nil _ _) ?_
        refine aw_rt ?_
        refine block_ret ?_
        refine block_ret ?_
        refine then_ret ?_
        refine then_ret ?_
        refine block_ret ?_
        refine then_ret ?_
        exact en_ret [.int .i64 0] (show (.int .i64 0 : Value) = (.int .i64 (Sp.ahF [Sp.hasF R1 (Sp.lim 1048576 px) (Sp.lim 1048576 py) 0 (-1), Sp.hasF R2 (Sp.lim 1048576 px) (Sp.lim 1048576 py) 0 (-1), Sp.hasF R3 (Sp.lim 1048576 px) (Sp.lim 1048576 py) 0 (-1)] (-1))) from (congrArg (Value.int .i64) (show 0 = (Sp.ahF [Sp.hasF R1 (Sp.lim 1048576 px) (Sp.lim 1048576 py) 0 (-1), Sp.hasF R2 (Sp.lim 1048576 px) (Sp.lim 1048576 py) 0 (-1), Sp.hasF R3 (Sp.lim 1048576 px) (Sp.lim 1048576 py) 0 (-1)] (-1)) from by (simp [Sp.ahF, *]))))
      · have h9p : ¬ (((Sp.hasF R2 (Sp.lim 1048576 px) (Sp.lim 1048576 py) 0 (-1)) = 0)) := by first | (simpa using h9) | (have h9q := h9; simp at h9q; omega) | (have h9q := bx2 h9; simp at h9q; omega)
        refine aw_p 122751 (
          .a 2 5 <| .nil _ _) ?_
        refine aw_cd 245502 245503 ((Sp.hasF R2 (Sp.lim 1048576 px) (Sp.lim 1048576 py) 0 (-1)) == 1) (fun h10 => ?_) (fun h10 => ?_)
        · have h10p : (((Sp.hasF R2 (Sp.lim 1048576 px) (Sp.lim 1048576 py) 0 (-1)) = 1)) := by first | (simpa using h10) | (have h10q := h10; simp at h10q; omega) | (have h10q := bx1 h10; simp at h10q; omega)
          refine aw_p1 (
            .a 3 5 <| .nil _ _) ?_
          refine block_normal ?_
          refine block_normal ?_
          refine then_normal ?_
          refine aw_p1 (
            .a 2 5 <| .nil _ _) ?_
          refine then_normal ?_
          refine al_round ?_
          refine aw_p 239 (
            .a 1 5 <| .nil _ _) ?_
          refine aw_sq 478 479 ?_
          refine aw_tr 956 ?_
          refine aw_sk ?_
          refine then_normal ?_
          refine aw_sq 958 959 ?_
          refine aw_bl 1 1917 ?_
          refine aw_p 3835 (
            .a 3 5 <| .nil _ _) ?_
          refine aw_p 7671 (
            .a 2 5 <|
            .p (does_callB (x := .func 11) (ars := #[.tmp 14, .tmp 15]) (ats := #[30, 28]) (g := 11) (vs := [.slice (some ⟨3, 0, none⟩) R3.length 0, .agg #[.int .i64 px, .int .i64 py]]) (m := 1) (r := 0) (firsts := #[]) (caps := #[]) (args0 := [.slice (some ⟨0, 0, none⟩) R3.length 0, .agg #[.int .i64 px, .int .i64 py]]) (pre0 := [(0, ⟨(R3.flatMap ptc), 28, true, 2⟩)]) (post0 := [(0, ⟨(R3.flatMap ptc), 28, true, 2⟩)]) (pre := [(3, ⟨(R3.flatMap ptc), 28, true, 2⟩)]) (post := [(3, ⟨(R3.flatMap ptc), 28, true, 2⟩)]) (v0 := .int .i64 (Sp.hasF R3 (Sp.lim 1048576 px) (Sp.lim 1048576 py) 0 (-1))) (v := .int .i64 (Sp.hasF R3 (Sp.lim 1048576 px) (Sp.lim 1048576 py) 0 (-1))) [3] (by kernel_rfl) (by kernel_rfl) (by kernel_rfl) (by kernel_rfl) (hasn_own R3 R3.length (rfl) (by first | omega | decide) px py) (.cons (.slice _ _ _ _ _ (by decide)) (.cons (.flatB (by kernel_rfl)) .nil)) ⟨rfl, ⟨rfl, rfl, rfl, (.flats (flats_pair _))⟩, trivial⟩ (by kernel_rfl) (by kernel_rfl) (by kernel_rfl) ⟨rfl, ⟨rfl, rfl, rfl, (.flats (flats_pair _))⟩, trivial⟩ (.flatB (by kernel_rfl))) <| .nil _ _) ?_
          refine aw_bl 2 15343 ?_
          refine aw_p 30687 (
            .a 2 5 <| .nil _ _) ?_
          refine aw_cd 61374 61375 ((Sp.hasF R3 (Sp.lim 1048576 px) (Sp.lim 1048576 py) 0 (-1)) == 0) (fun h11 => ?_) (fun h11 => ?_)
          · have h11p : (((Sp.hasF R3 (Sp.lim 1048576 px) (Sp.lim 1048576 py) 0 (-1)) = 0)) := by first | (simpa using h11) | (have h11q := h11; simp at h11q; omega) | (have h11q := bx1 h11; simp at h11q; omega)
            refine aw_p 122749 (
              .a 1 5 <| .nil _ _) ?_
            refine aw_rt ?_
            refine block_ret ?_
            refine block_ret ?_
            refine then_ret ?_
            refine then_ret ?_
            refine block_ret ?_
            refine then_ret ?_
            exact en_ret [.int .i64 0] (show (.int .i64 0 : Value) = (.int .i64 (Sp.ahF [Sp.hasF R1 (Sp.lim 1048576 px) (Sp.lim 1048576 py) 0 (-1), Sp.hasF R2 (Sp.lim 1048576 px) (Sp.lim 1048576 py) 0 (-1), Sp.hasF R3 (Sp.lim 1048576 px) (Sp.lim 1048576 py) 0 (-1)] (-1))) from (congrArg (Value.int .i64) (show 0 = (Sp.ahF [Sp.hasF R1 (Sp.lim 1048576 px) (Sp.lim 1048576 py) 0 (-1), Sp.hasF R2 (Sp.lim 1048576 px) (Sp.lim 1048576 py) 0 (-1), Sp.hasF R3 (Sp.lim 1048576 px) (Sp.lim 1048576 py) 0 (-1)] (-1)) from by (simp [Sp.ahF, *]))))
          · have h11p : ¬ (((Sp.hasF R3 (Sp.lim 1048576 px) (Sp.lim 1048576 py) 0 (-1)) = 0)) := by first | (simpa using h11) | (have h11q := h11; simp at h11q; omega) | (have h11q := bx2 h11; simp at h11q; omega)
            refine aw_p 122751 (
              .a 2 5 <| .nil _ _) ?_
            refine aw_cd 245502 245503 ((Sp.hasF R3 (Sp.lim 1048576 px) (Sp.lim 1048576 py) 0 (-1)) == 1) (fun h12 => ?_) (fun h12 => ?_)
            · have h12p : (((Sp.hasF R3 (Sp.lim 1048576 px) (Sp.lim 1048576 py) 0 (-1)) = 1)) := by first | (simpa using h12) | (have h12q := h12; simp at h12q; omega) | (have h12q := bx1 h12; simp at h12q; omega)
              refine aw_p1 (
                .a 3 5 <| .nil _ _) ?_
              refine block_normal ?_
              refine block_normal ?_
              refine then_normal ?_
              refine aw_p1 (
                .a 2 5 <| .nil _ _) ?_
              refine then_normal ?_
              refine al_round ?_
              refine aw_p 239 (
                .a 1 5 <| .nil _ _) ?_
              refine aw_sq 478 479 ?_
              refine aw_fl 957 ?_
              refine aw_ex 0 ?_
              refine then_exit ?_
              refine then_exit ?_
              refine block_exit ?_
              refine then_normal ?_
              refine aw_p 31 (
                .a 2 5 <| .nil _ _) ?_
              refine aw_rt ?_
              exact en_ret [.int .i64 (-1)] (show (.int .i64 (-1) : Value) = (.int .i64 (Sp.ahF [Sp.hasF R1 (Sp.lim 1048576 px) (Sp.lim 1048576 py) 0 (-1), Sp.hasF R2 (Sp.lim 1048576 px) (Sp.lim 1048576 py) 0 (-1), Sp.hasF R3 (Sp.lim 1048576 px) (Sp.lim 1048576 py) 0 (-1)] (-1))) from (congrArg (Value.int .i64) (show (-1) = (Sp.ahF [Sp.hasF R1 (Sp.lim 1048576 px) (Sp.lim 1048576 py) 0 (-1), Sp.hasF R2 (Sp.lim 1048576 px) (Sp.lim 1048576 py) 0 (-1), Sp.hasF R3 (Sp.lim 1048576 px) (Sp.lim 1048576 py) 0 (-1)] (-1)) from by (simp [Sp.ahF, *]))))
            · have h12p : ¬ (((Sp.hasF R3 (Sp.lim 1048576 px) (Sp.lim 1048576 py) 0 (-1)) = 1)) := by first | (simpa using h12) | (have h12q := h12; simp at h12q; omega) | (have h12q := bx2 h12; simp at h12q; omega)
              refine aw_sk ?_
              refine block_normal ?_
              refine block_normal ?_
              refine then_normal ?_
              refine aw_p1 (
                .a 2 5 <| .nil _ _) ?_
              refine then_normal ?_
              refine al_round ?_
              refine aw_p 239 (
                .a 1 5 <| .nil _ _) ?_
              refine aw_sq 478 479 ?_
              refine aw_fl 957 ?_
              refine aw_ex 0 ?_
              refine then_exit ?_
              refine then_exit ?_
              refine block_exit ?_
              refine then_normal ?_
              refine aw_p 31 (
                .a 2 5 <| .nil _ _) ?_
              refine aw_rt ?_
              exact en_ret [.int .i64 1] (show (.int .i64 1 : Value) = (.int .i64 (Sp.ahF [Sp.hasF R1 (Sp.lim 1048576 px) (Sp.lim 1048576 py) 0 (-1), Sp.hasF R2 (Sp.lim 1048576 px) (Sp.lim 1048576 py) 0 (-1), Sp.hasF R3 (Sp.lim 1048576 px) (Sp.lim 1048576 py) 0 (-1)] (-1))) from (congrArg (Value.int .i64) (show 1 = (Sp.ahF [Sp.hasF R1 (Sp.lim 1048576 px) (Sp.lim 1048576 py) 0 (-1), Sp.hasF R2 (Sp.lim 1048576 px) (Sp.lim 1048576 py) 0 (-1), Sp.hasF R3 (Sp.lim 1048576 px) (Sp.lim 1048576 py) 0 (-1)] (-1)) from by (simp [Sp.ahF, *]))))
        · have h10p : ¬ (((Sp.hasF R2 (Sp.lim 1048576 px) (Sp.lim 1048576 py) 0 (-1)) = 1)) := by first | (simpa using h10) | (have h10q := h10; simp at h10q; omega) | (have h10q := bx2 h10; simp at h10q; omega)
          refine aw_sk ?_
          refine block_normal ?_
          refine block_normal ?_
          refine then_normal ?_
          refine aw_p1 (
            .a 2 5 <| .nil _ _) ?_
          refine then_normal ?_
          refine al_round ?_
          refine aw_p 239 (
            .a 1 5 <| .nil _ _) ?_
          refine aw_sq 478 479 ?_
          refine aw_tr 956 ?_
          refine aw_sk ?_
          refine then_normal ?_
          refine aw_sq 958 959 ?_
          refine aw_bl 1 1917 ?_
          refine aw_p 3835 (
            .a 3 5 <| .nil _ _) ?_
          refine aw_p 7671 (
            .a 2 5 <|
            .p (does_callB (x := .func 11) (ars := #[.tmp 14, .tmp 15]) (ats := #[30, 28]) (g := 11) (vs := [.slice (some ⟨3, 0, none⟩) R3.length 0, .agg #[.int .i64 px, .int .i64 py]]) (m := 1) (r := 0) (firsts := #[]) (caps := #[]) (args0 := [.slice (some ⟨0, 0, none⟩) R3.length 0, .agg #[.int .i64 px, .int .i64 py]]) (pre0 := [(0, ⟨(R3.flatMap ptc), 28, true, 2⟩)]) (post0 := [(0, ⟨(R3.flatMap ptc), 28, true, 2⟩)]) (pre := [(3, ⟨(R3.flatMap ptc), 28, true, 2⟩)]) (post := [(3, ⟨(R3.flatMap ptc), 28, true, 2⟩)]) (v0 := .int .i64 (Sp.hasF R3 (Sp.lim 1048576 px) (Sp.lim 1048576 py) 0 (-1))) (v := .int .i64 (Sp.hasF R3 (Sp.lim 1048576 px) (Sp.lim 1048576 py) 0 (-1))) [3] (by kernel_rfl) (by kernel_rfl) (by kernel_rfl) (by kernel_rfl) (hasn_own R3 R3.length (rfl) (by first | omega | decide) px py) (.cons (.slice _ _ _ _ _ (by decide)) (.cons (.flatB (by kernel_rfl)) .nil)) ⟨rfl, ⟨rfl, rfl, rfl, (.flats (flats_pair _))⟩, trivial⟩ (by kernel_rfl) (by kernel_rfl) (by kernel_rfl) ⟨rfl, ⟨rfl, rfl, rfl, (.flats (flats_pair _))⟩, trivial⟩ (.flatB (by kernel_rfl))) <| .nil _ _) ?_
          refine aw_bl 2 15343 ?_
          refine aw_p 30687 (
            .a 2 5 <| .nil _ _) ?_
          refine aw_cd 61374 61375 ((Sp.hasF R3 (Sp.lim 1048576 px) (Sp.lim 1048576 py) 0 (-1)) == 0) (fun h13 => ?_) (fun h13 => ?_)
          · have h13p : (((Sp.hasF R3 (Sp.lim 1048576 px) (Sp.lim 1048576 py) 0 (-1)) = 0)) := by first | (simpa using h13) | (have h13q := h13; simp at h13q; omega) | (have h13q := bx1 h13; simp at h13q; omega)
            refine aw_p 122749 (
              .a 1 5 <| .nil _ _) ?_
            refine aw_rt ?_
            refine block_ret ?_
            refine block_ret ?_
            refine then_ret ?_
            refine then_ret ?_
            refine block_ret ?_
            refine then_ret ?_
            exact en_ret [.int .i64 0] (show (.int .i64 0 : Value) = (.int .i64 (Sp.ahF [Sp.hasF R1 (Sp.lim 1048576 px) (Sp.lim 1048576 py) 0 (-1), Sp.hasF R2 (Sp.lim 1048576 px) (Sp.lim 1048576 py) 0 (-1), Sp.hasF R3 (Sp.lim 1048576 px) (Sp.lim 1048576 py) 0 (-1)] (-1))) from (congrArg (Value.int .i64) (show 0 = (Sp.ahF [Sp.hasF R1 (Sp.lim 1048576 px) (Sp.lim 1048576 py) 0 (-1), Sp.hasF R2 (Sp.lim 1048576 px) (Sp.lim 1048576 py) 0 (-1), Sp.hasF R3 (Sp.lim 1048576 px) (Sp.lim 1048576 py) 0 (-1)] (-1)) from by (simp [Sp.ahF, *]))))
          · have h13p : ¬ (((Sp.hasF R3 (Sp.lim 1048576 px) (Sp.lim 1048576 py) 0 (-1)) = 0)) := by first | (simpa using h13) | (have h13q := h13; simp at h13q; omega) | (have h13q := bx2 h13; simp at h13q; omega)
            refine aw_p 122751 (
              .a 2 5 <| .nil _ _) ?_
            refine aw_cd 245502 245503 ((Sp.hasF R3 (Sp.lim 1048576 px) (Sp.lim 1048576 py) 0 (-1)) == 1) (fun h14 => ?_) (fun h14 => ?_)
            · have h14p : (((Sp.hasF R3 (Sp.lim 1048576 px) (Sp.lim 1048576 py) 0 (-1)) = 1)) := by first | (simpa using h14) | (have h14q := h14; simp at h14q; omega) | (have h14q := bx1 h14; simp at h14q; omega)
              refine aw_p1 (
                .a 3 5 <| .nil _ _) ?_
              refine block_normal ?_
              refine block_normal ?_
              refine then_normal ?_
              refine aw_p1 (
                .a 2 5 <| .nil _ _) ?_
              refine then_normal ?_
              refine al_round ?_
              refine aw_p 239 (
                .a 1 5 <| .nil _ _) ?_
              refine aw_sq 478 479 ?_
              refine aw_fl 957 ?_
              refine aw_ex 0 ?_
              refine then_exit ?_
              refine then_exit ?_
              refine block_exit ?_
              refine then_normal ?_
              refine aw_p 31 (
                .a 2 5 <| .nil _ _) ?_
              refine aw_rt ?_
              exact en_ret [.int .i64 1] (show (.int .i64 1 : Value) = (.int .i64 (Sp.ahF [Sp.hasF R1 (Sp.lim 1048576 px) (Sp.lim 1048576 py) 0 (-1), Sp.hasF R2 (Sp.lim 1048576 px) (Sp.lim 1048576 py) 0 (-1), Sp.hasF R3 (Sp.lim 1048576 px) (Sp.lim 1048576 py) 0 (-1)] (-1))) from (congrArg (Value.int .i64) (show 1 = (Sp.ahF [Sp.hasF R1 (Sp.lim 1048576 px) (Sp.lim 1048576 py) 0 (-1), Sp.hasF R2 (Sp.lim 1048576 px) (Sp.lim 1048576 py) 0 (-1), Sp.hasF R3 (Sp.lim 1048576 px) (Sp.lim 1048576 py) 0 (-1)] (-1)) from by (simp [Sp.ahF, *]))))
            · have h14p : ¬ (((Sp.hasF R3 (Sp.lim 1048576 px) (Sp.lim 1048576 py) 0 (-1)) = 1)) := by first | (simpa using h14) | (have h14q := h14; simp at h14q; omega) | (have h14q := bx2 h14; simp at h14q; omega)
              refine aw_sk ?_
              refine block_normal ?_
              refine block_normal ?_
              refine then_normal ?_
              refine aw_p1 (
                .a 2 5 <| .nil _ _) ?_
              refine then_normal ?_
              refine al_round ?_
              refine aw_p 239 (
                .a 1 5 <| .nil _ _) ?_
              refine aw_sq 478 479 ?_
              refine aw_fl 957 ?_
              refine aw_ex 0 ?_
              refine then_exit ?_
              refine then_exit ?_
              refine block_exit ?_
              refine then_normal ?_
              refine aw_p 31 (
                .a 2 5 <| .nil _ _) ?_
              refine aw_rt ?_
              exact en_ret [.int .i64 (-1)] (show (.int .i64 (-1) : Value) = (.int .i64 (Sp.ahF [Sp.hasF R1 (Sp.lim 1048576 px) (Sp.lim 1048576 py) 0 (-1), Sp.hasF R2 (Sp.lim 1048576 px) (Sp.lim 1048576 py) 0 (-1), Sp.hasF R3 (Sp.lim 1048576 px) (Sp.lim 1048576 py) 0 (-1)] (-1))) from (congrArg (Value.int .i64) (show (-1) = (Sp.ahF [Sp.hasF R1 (Sp.lim 1048576 px) (Sp.lim 1048576 py) 0 (-1), Sp.hasF R2 (Sp.lim 1048576 px) (Sp.lim 1048576 py) 0 (-1), Sp.hasF R3 (Sp.lim 1048576 px) (Sp.lim 1048576 py) 0 (-1)] (-1)) from by (simp [Sp.ahF, *]))))


end Go.Proofs.Ytndkhgfecnbmnaa.Am
