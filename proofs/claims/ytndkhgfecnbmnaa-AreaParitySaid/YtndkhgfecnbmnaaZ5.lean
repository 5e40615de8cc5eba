/-
  The walks of the depths of rings.
-/
import Derived.Test.YtndkhgfecnbmnaaProg
import Derived.Test.YtndkhgfecnbmnaaAm16
import Derived.Test.YtndkhgfecnbmnaaZ4
namespace Go.Proofs.Ytndkhgfecnbmnaa.Am
open Go Go.Proofs
set_option maxRecDepth 100000
set_option maxHeartbeats 4000000
set_option linter.unusedVariables false
set_option linter.unusedSimpArgs false

theorem adepth_n1 (R1 : List (Int × Int)) (zR1 : 1 ≤ R1.length ∧ R1.length ≤ 200) (fR1 : Sp.Few 1000 R1) (cR1 : Sp.chkF R1 = 0) :
    AC Try.prog 13 2 ([.slice (some ⟨0, 0, none⟩) 1 0]) [(0, ⟨[.slice (some ⟨1, 0, none⟩) R1.length 0], 30, true, 1⟩), (1, ⟨(R1.flatMap ptc), 28, true, 2⟩)] (.slice (some ⟨2, 0, none⟩) 1 0) [(0, ⟨[.slice (some ⟨1, 0, none⟩) R1.length 0], 30, true, 1⟩), (1, ⟨(R1.flatMap ptc), 28, true, 2⟩), (2, ⟨[.int .i64 0], 3, true, 1⟩)] := by
  refine ac_in Try.func13 (fun w0 W pin => ?_)
  refine aw_p 3 (
    .a 1 2 <| .nil _ _) ?_
  refine aw_sq 6 7 ?_
  refine aw_p 13 (
    .a 1 2 <|
    .p (does_callB (x := .func 18) (ars := #[.tmp 8]) (ats := #[25]) (g := 18) (vs := [.slice (some ⟨0, 0, none⟩) 1 0]) (m := 2) (r := 0) (firsts := #[]) (caps := #[]) (args0 := [.slice (some ⟨0, 0, none⟩) 1 0]) (pre0 := [(0, ⟨[.slice (some ⟨1, 0, none⟩) R1.length 0], 30, true, 1⟩), (1, ⟨(R1.flatMap ptc), 28, true, 2⟩)]) (post0 := [(0, ⟨[.slice (some ⟨1, 0, none⟩) R1.length 0], 30, true, 1⟩), (1, ⟨(R1.flatMap ptc), 28, true, 2⟩)]) (pre := [(0, ⟨[.slice (some ⟨1, 0, none⟩) R1.length 0], 30, true, 1⟩), (1, ⟨(R1.flatMap ptc), 28, true, 2⟩)]) (post := [(0, ⟨[.slice (some ⟨1, 0, none⟩) R1.length 0], 30, true, 1⟩), (1, ⟨(R1.flatMap ptc), 28, true, 2⟩)]) (v0 := .int .i64 0) (v := .int .i64 0) [0, 1] (by kernel_rfl) (by kernel_rfl) (by kernel_rfl) (by kernel_rfl) (acheck_n1 R1 zR1 fR1 cR1) (.cons (.slice _ _ _ _ _ (by decide)) .nil) ⟨rfl, ⟨rfl, rfl, rfl, (.cons (.slice _ _ _ _ _ (by decide)) .nil)⟩, rfl, ⟨rfl, rfl, rfl, (.flats (flats_pair _))⟩, trivial⟩ (by kernel_rfl) (by kernel_rfl) (by kernel_rfl) ⟨rfl, ⟨rfl, rfl, rfl, (.cons (.slice _ _ _ _ _ (by decide)) .nil)⟩, rfl, ⟨rfl, rfl, rfl, (.flats (flats_pair _))⟩, trivial⟩ (.flatB (by kernel_rfl))) <|
    .a 1 2 <| .nil _ _) ?_
  refine aw_fl 27 ?_
  refine aw_sk ?_
  refine then_normal ?_
  refine aw_p 15 (
    .a 2 2 <| .p (does_mk (kl := .i64) (kc := .i64) (n' := 1) (c' := 1) 2 3 1 8 1 1 (.int .i64 0) [.int .i64 0] (by kernel_rfl) (by kernel_rfl) (by kernel_rfl) (by kernel_rfl) (by decide) (by decide) (by decide) (by decide) (by decide)) <| .a 1 3 <| .nil _ _) ?_
  refine aw_sq 30 31 ?_
  refine aw_p 61 (
    .a 3 3 <| .nil _ _) ?_
  refine aw_bl 0 123 ?_
  refine aw_lp 247 ?_
  refine al_round ?_
  refine aw_p 495 (
    .a 1 3 <| .nil _ _) ?_
  refine aw_sq 990 991 ?_
  refine aw_tr 1980 ?_
  refine aw_sk ?_
  refine then_normal ?_
  refine aw_sq 1982 1983 ?_
  refine aw_bl 1 3965 ?_
  refine aw_p 7931 (
    .a 5 3 <| .nil _ _) ?_
  refine aw_p 15863 (
    .a 3 3 <| .nil _ _) ?_
  refine aw_bl 2 31727 ?_
  refine aw_lp 63455 ?_
  refine al_round ?_
  refine aw_p 126911 (
    .a 1 3 <| .nil _ _) ?_
  refine aw_sq 253822 253823 ?_
  refine aw_tr 507644 ?_
  refine aw_sk ?_
  refine then_normal ?_
  refine aw_sq 507646 507647 ?_
  refine aw_bl 3 1015293 ?_
  refine aw_p 2030587 (
    .a 5 3 <| .nil _ _) ?_
  refine aw_p 4061175 (
    .a 9 3 <| .nil _ _) ?_
  refine aw_fl 8122351 ?_
  refine aw_sk ?_
  refine block_normal ?_
  refine then_normal ?_
  refine aw_p1 (
    .a 2 3 <| .nil _ _) ?_
  refine then_normal ?_
  refine al_round ?_
  refine aw_p 126911 (
    .a 1 3 <| .nil _ _) ?_
  refine aw_sq 253822 253823 ?_
  refine aw_fl 507645 ?_
  refine aw_ex 2 ?_
  refine then_exit ?_
  refine then_exit ?_
  refine block_exit ?_
  refine block_normal ?_
  refine then_normal ?_
  refine aw_p1 (
    .a 2 3 <| .nil _ _) ?_
  refine then_normal ?_
  refine al_round ?_
  refine aw_p 495 (
    .a 1 3 <| .nil _ _) ?_
  refine aw_sq 990 991 ?_
  refine aw_fl 1981 ?_
  refine aw_ex 0 ?_
  refine then_exit ?_
  refine then_exit ?_
  refine block_exit ?_
  refine then_normal ?_
  refine aw_p 63 (
    .a 2 3 <| .nil _ _) ?_
  refine aw_rt ?_
  exact en_ret [.slice (some ⟨2, 0, none⟩) 1 0] (by kernel_rfl)

theorem adepth_n2 (R1 R2 : List (Int × Int)) (zR1 : 1 ≤ R1.length ∧ R1.length ≤ 200) (fR1 : Sp.Few 1000 R1) (zR2 : 1 ≤ R2.length ∧ R2.length ≤ 200) (fR2 : Sp.Few 1000 R2) (cR1 : Sp.chkF R1 = 0) (cR2 : Sp.chkF R2 = 0) (F21 : Sp.Fit R2 R1 1 (-1)) :
    AC Try.prog 13 3 ([.slice (some ⟨0, 0, none⟩) 2 0]) [(0, ⟨[.slice (some ⟨1, 0, none⟩) R1.length 0, .slice (some ⟨2, 0, none⟩) R2.length 0], 30, true, 1⟩), (1, ⟨(R1.flatMap ptc), 28, true, 2⟩), (2, ⟨(R2.flatMap ptc), 28, true, 2⟩)] (.slice (some ⟨3, 0, none⟩) 2 0) [(0, ⟨[.slice (some ⟨1, 0, none⟩) R1.length 0, .slice (some ⟨2, 0, none⟩) R2.length 0], 30, true, 1⟩), (1, ⟨(R1.flatMap ptc), 28, true, 2⟩), (2, ⟨(R2.flatMap ptc), 28, true, 2⟩), (3, ⟨[.int .i64 0, .int .i64 1], 3, true, 1⟩)] := by
  refine ac_in Try.func13 (fun w0 W pin => ?_)
  refine aw_p 3 (
    .a 1 3 <| .nil _ _) ?_
  refine aw_sq 6 7 ?_
  refine aw_p 13 (
    .a 1 3 <|
    .p (does_callB (x := .func 18) (ars := #[.tmp 8]) (ats := #[25]) (g := 18) (vs := [.slice (some ⟨0, 0, none⟩) 2 0]) (m := 3) (r := 0) (firsts := #[]) (caps := #[]) (args0 := [.slice (some ⟨0, 0, none⟩) 2 0]) (pre0 := [(0, ⟨[.slice (some ⟨1, 0, none⟩) R1.length 0, .slice (some ⟨2, 0, none⟩) R2.length 0], 30, true, 1⟩), (1, ⟨(R1.flatMap ptc), 28, true, 2⟩), (2, ⟨(R2.flatMap ptc), 28, true, 2⟩)]) (post0 := [(0, ⟨[.slice (some ⟨1, 0, none⟩) R1.length 0, .slice (some ⟨2, 0, none⟩) R2.length 0], 30, true, 1⟩), (1, ⟨(R1.flatMap ptc), 28, true, 2⟩), (2, ⟨(R2.flatMap ptc), 28, true, 2⟩)]) (pre := [(0, ⟨[.slice (some ⟨1, 0, none⟩) R1.length 0, .slice (some ⟨2, 0, none⟩) R2.length 0], 30, true, 1⟩), (1, ⟨(R1.flatMap ptc), 28, true, 2⟩), (2, ⟨(R2.flatMap ptc), 28, true, 2⟩)]) (post := [(0, ⟨[.slice (some ⟨1, 0, none⟩) R1.length 0, .slice (some ⟨2, 0, none⟩) R2.length 0], 30, true, 1⟩), (1, ⟨(R1.flatMap ptc), 28, true, 2⟩), (2, ⟨(R2.flatMap ptc), 28, true, 2⟩)]) (v0 := .int .i64 0) (v := .int .i64 0) [0, 1, 2] (by kernel_rfl) (by kernel_rfl) (by kernel_rfl) (by kernel_rfl) (acheck_n2 R1 R2 zR1 fR1 zR2 fR2 cR1 cR2 F21) (.cons (.slice _ _ _ _ _ (by decide)) .nil) ⟨rfl, ⟨rfl, rfl, rfl, (.cons (.slice _ _ _ _ _ (by decide)) (.cons (.slice _ _ _ _ _ (by decide)) .nil))⟩, rfl, ⟨rfl, rfl, rfl, (.flats (flats_pair _))⟩, rfl, ⟨rfl, rfl, rfl, (.flats (flats_pair _))⟩, trivial⟩ (by kernel_rfl) (by kernel_rfl) (by kernel_rfl) ⟨rfl, ⟨rfl, rfl, rfl, (.cons (.slice _ _ _ _ _ (by decide)) (.cons (.slice _ _ _ _ _ (by decide)) .nil))⟩, rfl, ⟨rfl, rfl, rfl, (.flats (flats_pair _))⟩, rfl, ⟨rfl, rfl, rfl, (.flats (flats_pair _))⟩, trivial⟩ (.flatB (by kernel_rfl))) <|
    .a 1 3 <| .nil _ _) ?_
  refine aw_fl 27 ?_
  refine aw_sk ?_
  refine then_normal ?_
  refine aw_p 15 (
    .a 2 3 <| .p (does_mk (kl := .i64) (kc := .i64) (n' := 2) (c' := 2) 3 3 1 8 2 2 (.int .i64 0) [.int .i64 0, .int .i64 0] (by kernel_rfl) (by kernel_rfl) (by kernel_rfl) (by kernel_rfl) (by decide) (by decide) (by decide) (by decide) (by decide)) <| .a 1 4 <| .nil _ _) ?_
  refine aw_sq 30 31 ?_
  refine aw_p 61 (
    .a 3 4 <| .nil _ _) ?_
  refine aw_bl 0 123 ?_
  refine aw_lp 247 ?_
  refine al_round ?_
  refine aw_p 495 (
    .a 1 4 <| .nil _ _) ?_
  refine aw_sq 990 991 ?_
  refine aw_tr 1980 ?_
  refine aw_sk ?_
  refine then_normal ?_
  refine aw_sq 1982 1983 ?_
  refine aw_bl 1 3965 ?_
  refine aw_p 7931 (
    .a 5 4 <| .nil _ _) ?_
  refine aw_p 15863 (
    .a 3 4 <| .nil _ _) ?_
  refine aw_bl 2 31727 ?_
  refine aw_lp 63455 ?_
  refine al_round ?_
  refine aw_p 126911 (
    .a 1 4 <| .nil _ _) ?_
  refine aw_sq 253822 253823 ?_
  refine aw_tr 507644 ?_
  refine aw_sk ?_
  refine then_normal ?_
  refine aw_sq 507646 507647 ?_
  refine aw_bl 3 1015293 ?_
  refine aw_p 2030587 (
    .a 5 4 <| .nil _ _) ?_
  refine aw_p 4061175 (
    .a 9 4 <| .nil _ _) ?_
  refine aw_fl 8122351 ?_
  refine aw_sk ?_
  refine block_normal ?_
  refine then_normal ?_
  refine aw_p1 (
    .a 2 4 <| .nil _ _) ?_
  refine then_normal ?_
  refine al_round ?_
  refine aw_p 126911 (
    .a 1 4 <| .nil _ _) ?_
  refine aw_sq 253822 253823 ?_
  refine aw_tr 507644 ?_
  refine aw_sk ?_
  refine then_normal ?_
  refine aw_sq 507646 507647 ?_
  refine aw_bl 3 1015293 ?_
  refine aw_p 2030587 (
    .a 5 4 <| .nil _ _) ?_
  refine aw_p 4061175 (
    .a 6 4 <|
    .p (does_callB (x := .func 58) (ars := #[.tmp 32, .const (.int .i64 0), .tmp 33]) (ats := #[30, 3, 30]) (g := 58) (vs := [.slice (some ⟨1, 0, none⟩) R1.length 0, .int .i64 0, .slice (some ⟨2, 0, none⟩) R2.length 0]) (m := 2) (r := 0) (firsts := #[]) (caps := #[]) (args0 := [.slice (some ⟨0, 0, none⟩) R1.length 0, .int .i64 0, .slice (some ⟨1, 0, none⟩) R2.length 0]) (pre0 := [(0, ⟨(R1.flatMap ptc), 28, true, 2⟩), (1, ⟨(R2.flatMap ptc), 28, true, 2⟩)]) (post0 := [(0, ⟨(R1.flatMap ptc), 28, true, 2⟩), (1, ⟨(R2.flatMap ptc), 28, true, 2⟩)]) (pre := [(1, ⟨(R1.flatMap ptc), 28, true, 2⟩), (2, ⟨(R2.flatMap ptc), 28, true, 2⟩)]) (post := [(1, ⟨(R1.flatMap ptc), 28, true, 2⟩), (2, ⟨(R2.flatMap ptc), 28, true, 2⟩)]) (v0 := .int .i64 (-1)) (v := .int .i64 (-1)) [1, 2] (by kernel_rfl) (by kernel_rfl) (by kernel_rfl) (by kernel_rfl) ((by have h := side_ok R1 R2 zR1 fR1 zR2 fR2 0 (by omega); rw [Sp.side_at F21.2.2 (by omega)] at h; exact h)) (.cons (.slice _ _ _ _ _ (by decide)) (.cons (.flatB (by kernel_rfl)) (.cons (.slice _ _ _ _ _ (by decide)) .nil))) ⟨rfl, ⟨rfl, rfl, rfl, (.flats (flats_pair _))⟩, rfl, ⟨rfl, rfl, rfl, (.flats (flats_pair _))⟩, trivial⟩ (by kernel_rfl) (by kernel_rfl) (by kernel_rfl) ⟨rfl, ⟨rfl, rfl, rfl, (.flats (flats_pair _))⟩, rfl, ⟨rfl, rfl, rfl, (.flats (flats_pair _))⟩, trivial⟩ (.flatB (by kernel_rfl))) <|
    .a 2 4 <| .nil _ _) ?_
  refine aw_fl 8122351 ?_
  refine aw_sk ?_
  refine block_normal ?_
  refine then_normal ?_
  refine aw_p1 (
    .a 2 4 <| .nil _ _) ?_
  refine then_normal ?_
  refine al_round ?_
  refine aw_p 126911 (
    .a 1 4 <| .nil _ _) ?_
  refine aw_sq 253822 253823 ?_
  refine aw_fl 507645 ?_
  refine aw_ex 2 ?_
  refine then_exit ?_
  refine then_exit ?_
  refine block_exit ?_
  refine block_normal ?_
  refine then_normal ?_
  refine aw_p1 (
    .a 2 4 <| .nil _ _) ?_
  refine then_normal ?_
  refine al_round ?_
  refine aw_p 495 (
    .a 1 4 <| .nil _ _) ?_
  refine aw_sq 990 991 ?_
  refine aw_tr 1980 ?_
  refine aw_sk ?_
  refine then_normal ?_
  refine aw_sq 1982 1983 ?_
  refine aw_bl 1 3965 ?_
  refine aw_p 7931 (
    .a 5 4 <| .nil _ _) ?_
  refine aw_p 15863 (
    .a 3 4 <| .nil _ _) ?_
  refine aw_bl 2 31727 ?_
  refine aw_lp 63455 ?_
  refine al_round ?_
  refine aw_p 126911 (
    .a 1 4 <| .nil _ _) ?_
  refine aw_sq 253822 253823 ?_
  refine aw_tr 507644 ?_
  refine aw_sk ?_
  refine then_normal ?_
  refine aw_sq 507646 507647 ?_
  refine aw_bl 3 1015293 ?_
  refine aw_p 2030587 (
    .a 5 4 <| .nil _ _) ?_
  refine aw_p 4061175 (
    .a 6 4 <|
    .p (does_callB (x := .func 58) (ars := #[.tmp 32, .const (.int .i64 0), .tmp 33]) (ats := #[30, 3, 30]) (g := 58) (vs := [.slice (some ⟨2, 0, none⟩) R2.length 0, .int .i64 0, .slice (some ⟨1, 0, none⟩) R1.length 0]) (m := 2) (r := 0) (firsts := #[]) (caps := #[]) (args0 := [.slice (some ⟨0, 0, none⟩) R2.length 0, .int .i64 0, .slice (some ⟨1, 0, none⟩) R1.length 0]) (pre0 := [(0, ⟨(R2.flatMap ptc), 28, true, 2⟩), (1, ⟨(R1.flatMap ptc), 28, true, 2⟩)]) (post0 := [(0, ⟨(R2.flatMap ptc), 28, true, 2⟩), (1, ⟨(R1.flatMap ptc), 28, true, 2⟩)]) (pre := [(2, ⟨(R2.flatMap ptc), 28, true, 2⟩), (1, ⟨(R1.flatMap ptc), 28, true, 2⟩)]) (post := [(2, ⟨(R2.flatMap ptc), 28, true, 2⟩), (1, ⟨(R1.flatMap ptc), 28, true, 2⟩)]) (v0 := .int .i64 1) (v := .int .i64 1) [2, 1] (by kernel_rfl) (by kernel_rfl) (by kernel_rfl) (by kernel_rfl) ((by have h := side_ok R2 R1 zR2 fR2 zR1 fR1 0 (by omega); rw [Sp.side_at F21.2.1 (by omega)] at h; exact h)) (.cons (.slice _ _ _ _ _ (by decide)) (.cons (.flatB (by kernel_rfl)) (.cons (.slice _ _ _ _ _ (by decide)) .nil))) ⟨rfl, ⟨rfl, rfl, rfl, (.flats (flats_pair _))⟩, rfl, ⟨rfl, rfl, rfl, (.flats (flats_pair _))⟩, trivial⟩ (by kernel_rfl) (by kernel_rfl) (by kernel_rfl) ⟨rfl, ⟨rfl, rfl, rfl, (.flats (flats_pair _))⟩, rfl, ⟨rfl, rfl, rfl, (.flats (flats_pair _))⟩, trivial⟩ (.flatB (by kernel_rfl))) <|
    .a 2 4 <| .nil _ _) ?_
  refine aw_tr 8122350 ?_
  refine aw_p1 (
    .a 7 4 <| .nil _ _) ?_
  refine block_normal ?_
  refine then_normal ?_
  refine aw_p1 (
    .a 2 4 <| .nil _ _) ?_
  refine then_normal ?_
  refine al_round ?_
  refine aw_p 126911 (
    .a 1 4 <| .nil _ _) ?_
  refine aw_sq 253822 253823 ?_
  refine aw_tr 507644 ?_
  refine aw_sk ?_
  refine then_normal ?_
  refine aw_sq 507646 507647 ?_
  refine aw_bl 3 1015293 ?_
  refine aw_p 2030587 (
    .a 5 4 <| .nil _ _) ?_
  refine aw_p 4061175 (
    .a 9 4 <| .nil _ _) ?_
  refine aw_fl 8122351 ?_
  refine aw_sk ?_
  refine block_normal ?_
  refine then_normal ?_
  refine aw_p1 (
    .a 2 4 <| .nil _ _) ?_
  refine then_normal ?_
  refine al_round ?_
  refine aw_p 126911 (
    .a 1 4 <| .nil _ _) ?_
  refine aw_sq 253822 253823 ?_
  refine aw_fl 507645 ?_
  refine aw_ex 2 ?_
  refine then_exit ?_
  refine then_exit ?_
  refine block_exit ?_
  refine block_normal ?_
  refine then_normal ?_
  refine aw_p1 (
    .a 2 4 <| .nil _ _) ?_
  refine then_normal ?_
  refine al_round ?_
  refine aw_p 495 (
    .a 1 4 <| .nil _ _) ?_
  refine aw_sq 990 991 ?_
  refine aw_fl 1981 ?_
  refine aw_ex 0 ?_
  refine then_exit ?_
  refine then_exit ?_
  refine block_exit ?_
  refine then_normal ?_
  refine aw_p 63 (
    .a 2 4 <| .nil _ _) ?_
  refine aw_rt ?_
  exact en_ret [.slice (some ⟨3, 0, none⟩) 2 0] (by kernel_rfl)

theorem adepth_n3 (R1 R2 R3 : List (Int × Int)) (zR1 : 1 ≤ R1.length ∧ R1.length ≤ 200) (fR1 : Sp.Few 1000 R1) (zR2 : 1 ≤ R2.length ∧ R2.length ≤ 200) (fR2 : Sp.Few 1000 R2) (zR3 : 1 ≤ R3.length ∧ R3.length ≤ 200) (fR3 : Sp.Few 1000 R3) (cR1 : Sp.chkF R1 = 0) (cR2 : Sp.chkF R2 = 0) (cR3 : Sp.chkF R3 = 0) (F21 : Sp.Fit R2 R1 1 (-1)) (F31 : Sp.Fit R3 R1 1 (-1)) (F32 : Sp.Fit R3 R2 1 (-1)) :
    AC Try.prog 13 4 ([.slice (some ⟨0, 0, none⟩) 3 0]) [(0, ⟨[.slice (some ⟨1, 0, none⟩) R1.length 0, .slice (some ⟨2, 0, none⟩) R2.length 0, .slice (some ⟨3, 0, none⟩) R3.length 0], 30, true, 1⟩), (1, ⟨(R1.flatMap ptc), 28, true, 2⟩), (2, ⟨(R2.flatMap ptc), 28, true, 2⟩), (3, ⟨(R3.flatMap ptc), 28, true, 2⟩)] (.slice (some ⟨4, 0, none⟩) 3 0) [(0, ⟨[.slice (some ⟨1, 0, none⟩) R1.length 0, .slice (some ⟨2, 0, none⟩) R2.length 0, .slice (some ⟨3, 0, none⟩) R3.length 0], 30, true, 1⟩), (1, ⟨(R1.flatMap ptc), 28, true, 2⟩), (2, ⟨(R2.flatMap ptc), 28, true, 2⟩), (3, ⟨(R3.flatMap ptc), 28, true, 2⟩), (4, ⟨[.int .i64 0, .int .i64 1, .int .i64 2], 3, true, 1⟩)] := by
  refine ac_in Try.func13 (fun w0 W pin => ?_)
  refine aw_p 3 (
    .a 1 4 <| .nil _ _) ?_
  refine aw_sq 6 7 ?_
  refine aw_p 13 (
    .a 1 4 <|
    .p (does_callB (x := .func 18) (ars := #[.tmp 8]) (ats := #[25]) (g := 18) (vs := [.slice (some ⟨0, 0, none⟩) 3 0]) (m := 4) (r := 0) (firsts := #[]) (caps := #[]) (args0 := [.slice (some ⟨0, 0, none⟩) 3 0]) (pre0 := [(0, ⟨[.slice (some ⟨1, 0, none⟩) R1.length 0, .slice (some ⟨2, 0, none⟩) R2.length 0, .slice (some ⟨3, 0, none⟩) R3.length 0], 30, true, 1⟩), (1, ⟨(R1.flatMap ptc), 28, true, 2⟩), (2, ⟨(R2.flatMap ptc), 28, true, 2⟩), (3, ⟨(R3.flatMap ptc), 28, true, 2⟩)]) (post0 := [(0, ⟨[.slice (some ⟨1, 0, none⟩) R1.length 0, .slice (some ⟨2, 0, none⟩) R2.length 0, .slice (some ⟨3, 0, none⟩) R3.length 0], 30, true, 1⟩), (1, ⟨(R1.flatMap ptc), 28, true, 2⟩), (2, ⟨(R2.flatMap ptc), 28, true, 2⟩), (3, ⟨(R3.flatMap ptc), 28, true, 2⟩)]) (pre := [(0, ⟨[.slice (some ⟨1, 0, none⟩) R1.length 0, .slice (some ⟨2, 0, none⟩) R2.length 0, .slice (some ⟨3, 0, none⟩) R3.length 0], 30, true, 1⟩), (1, ⟨(R1.flatMap ptc), 28, true, 2⟩), (2, ⟨(R2.flatMap ptc), 28, true, 2⟩), (3, ⟨(R3.flatMap ptc), 28, true, 2⟩)]) (post := [(0, ⟨[.slice (some ⟨1, 0, none⟩) R1.length 0, .slice (some ⟨2, 0, none⟩) R2.length 0, .slice (some ⟨3, 0, none⟩) R3.length 0], 30, true, 1⟩), (1, ⟨(R1.flatMap ptc), 28, true, 2⟩), (2, ⟨(R2.flatMap ptc), 28, true, 2⟩), (3, ⟨(R3.flatMap ptc), 28, true, 2⟩)]) (v0 := .int .i64 0) (v := .int .i64 0) [0, 1, 2, 3] (by kernel_rfl) (by kernel_rfl) (by kernel_rfl) (by kernel_rfl) (acheck_n3 R1 R2 R3 zR1 fR1 zR2 fR2 zR3 fR3 cR1 cR2 cR3 F21 F31 F32) (.cons (.slice _ _ _ _ _ (by decide)) .nil) ⟨rfl, ⟨rfl, rfl, rfl, (.cons (.slice _ _ _ _ _ (by decide)) (.cons (.slice _ _ _ _ _ (by decide)) (.cons (.slice _ _ _ _ _ (by decide)) .nil)))⟩, rfl, ⟨rfl, rfl, rfl, (.flats (flats_pair _))⟩, rfl, ⟨rfl, rfl, rfl, (.flats (flats_pair _))⟩, rfl, ⟨rfl, rfl, rfl, (.flats (flats_pair _))⟩, trivial⟩ (by kernel_rfl) (by kernel_rfl) (by kernel_rfl) ⟨rfl, ⟨rfl, rfl, rfl, (.cons (.slice _ _ _ _ _ (by decide)) (.cons (.slice _ _ _ _ _ (by decide)) (.cons (.slice _ _ _ _ _ (by decide)) .nil)))⟩, rfl, ⟨rfl, rfl, rfl, (.flats (flats_pair _))⟩, rfl, ⟨rfl, rfl, rfl, (.flats (flats_pair _))⟩, rfl, ⟨rfl, rfl, rfl, (.flats (flats_pair _))⟩, trivial⟩ (.flatB (by kernel_rfl))) <|
    .a 1 4 <| .nil _ _) ?_
  refine aw_fl 27 ?_
  refine aw_sk ?_
  refine then_normal ?_
  refine aw_p 15 (
    .a 2 4 <| .p (does_mk (kl := .i64) (kc := .i64) (n' := 3) (c' := 3) 4 3 1 8 3 3 (.int .i64 0) [.int .i64 0, .int .i64 0, .int .i64 0] (by kernel_rfl) (by kernel_rfl) (by kernel_rfl) (by kernel_rfl) (by decide) (by decide) (by decide) (by decide) (by decide)) <| .a 1 5 <| .nil _ _) ?_
  refine aw_sq 30 31 ?_
  refine aw_p 61 (
    .a 3 5 <| .nil _ _) ?_
  refine aw_bl 0 123 ?_
  refine aw_lp 247 ?_
  refine al_round ?_
  refine aw_p 495 (
    .a 1 5 <| .nil _ _) ?_
  refine aw_sq 990 991 ?_
  refine aw_tr 1980 ?_
  refine aw_sk ?_
  refine then_normal ?_
  refine aw_sq 1982 1983 ?_
  refine aw_bl 1 3965 ?_
  refine aw_p 7931 (
    .a 5 5 <| .nil _ _) ?_
  refine aw_p 15863 (
    .a 3 5 <| .nil _ _) ?_
  refine aw_bl 2 31727 ?_
  refine aw_lp 63455 ?_
  refine al_round ?_
  refine aw_p 126911 (
    .a 1 5 <| .nil _ _) ?_
  refine aw_sq 253822 253823 ?_
  refine aw_tr 507644 ?_
  refine aw_sk ?_
  refine then_normal ?_
  refine aw_sq 507646 507647 ?_
  refine aw_bl 3 1015293 ?_
  refine aw_p 2030587 (
    .a 5 5 <| .nil _ _) ?_
  refine aw_p 4061175 (
    .a 9 5 <| .nil _ _) ?_
  refine aw_fl 8122351 ?_
  refine aw_sk ?_
  refine block_normal ?_
  refine then_normal ?_
  refine aw_p1 (
    .a 2 5 <| .nil _ _) ?_
  refine then_normal ?_
  refine al_round ?_
  refine aw_p 126911 (
    .a 1 5 <| .nil _ _) ?_
  refine aw_sq 253822 253823 ?_
  refine aw_tr 507644 ?_
  refine aw_sk ?_
  refine then_normal ?_
  refine aw_sq 507646 507647 ?_
  refine aw_bl 3 1015293 ?_
  refine aw_p 2030587 (
    .a 5 5 <| .nil _ _) ?_
  refine aw_p 4061175 (
    .a 6 5 <|
    .p (does_callB (x := .func 58) (ars := #[.tmp 32, .const (.int .i64 0), .tmp 33]) (ats := #[30, 3, 30]) (g := 58) (vs := [.slice (some ⟨1, 0, none⟩) R1.length 0, .int .i64 0, .slice (some ⟨2, 0, none⟩) R2.length 0]) (m := 2) (r := 0) (firsts := #[]) (caps := #[]) (args0 := [.slice (some ⟨0, 0, none⟩) R1.length 0, .int .i64 0, .slice (some ⟨1, 0, none⟩) R2.length 0]) (pre0 := [(0, ⟨(R1.flatMap ptc), 28, true, 2⟩), (1, ⟨(R2.flatMap ptc), 28, true, 2⟩)]) (post0 := [(0, ⟨(R1.flatMap ptc), 28, true, 2⟩), (1, ⟨(R2.flatMap ptc), 28, true, 2⟩)]) (pre := [(1, ⟨(R1.flatMap ptc), 28, true, 2⟩), (2, ⟨(R2.flatMap ptc), 28, true, 2⟩)]) (post := [(1, ⟨(R1.flatMap ptc), 28, true, 2⟩), (2, ⟨(R2.flatMap ptc), 28, true, 2⟩)]) (v0 := .int .i64 (-1)) (v := .int .i64 (-1)) [1, 2] (by kernel_rfl) (by kernel_rfl) (by kernel_rfl) (by kernel_rfl) ((by have h := side_ok R1 R2 zR1 fR1 zR2 fR2 0 (by omega); rw [Sp.side_at F21.2.2 (by omega)] at h; exact h)) (.cons (.slice _ _ _ _ _ (by decide)) (.cons (.flatB (by kernel_rfl)) (.cons (.slice _ _ _ _ _ (by decide)) .nil))) ⟨rfl, ⟨rfl, rfl, rfl, (.flats (flats_pair _))⟩, rfl, ⟨rfl, rfl, rfl, (.flats (flats_pair _))⟩, trivial⟩ (by kernel_rfl) (by kernel_rfl) (by kernel_rfl) ⟨rfl, ⟨rfl, rfl, rfl, (.flats (flats_pair _))⟩, rfl, ⟨rfl, rfl, rfl, (.flats (flats_pair _))⟩, trivial⟩ (.flatB (by kernel_rfl))) <|
    .a 2 5 <| .nil _ _) ?_
  refine aw_fl 8122351 ?_
  refine aw_sk ?_
  refine block_normal ?_
  refine then_normal ?_
  refine aw_p1 (
    .a 2 5 <| .nil _ _) ?_
  refine then_normal ?_
  refine al_round ?_
  refine aw_p 126911 (
    .a 1 5 <| .nil _ _) ?_
  refine aw_sq 253822 253823 ?_
  refine aw_tr 507644 ?_
  refine aw_sk ?_
  refine then_normal ?_
  refine aw_sq 507646 507647 ?_
  refine aw_bl 3 1015293 ?_
  refine aw_p 2030587 (
    .a 5 5 <| .nil _ _) ?_
  refine aw_p 4061175 (
    .a 6 5 <|
    .p (does_callB (x := .func 58) (ars := #[.tmp 32, .const (.int .i64 0), .tmp 33]) (ats := #[30, 3, 30]) (g := 58) (vs := [.slice (some ⟨1, 0, none⟩) R1.length 0, .int .i64 0, .slice (some ⟨3, 0, none⟩) R3.length 0]) (m := 2) (r := 0) (firsts := #[]) (caps := #[]) (args0 := [.slice (some ⟨0, 0, none⟩) R1.length 0, .int .i64 0, .slice (some ⟨1, 0, none⟩) R3.length 0]) (pre0 := [(0, ⟨(R1.flatMap ptc), 28, true, 2⟩), (1, ⟨(R3.flatMap ptc), 28, true, 2⟩)]) (post0 := [(0, ⟨(R1.flatMap ptc), 28, true, 2⟩), (1, ⟨(R3.flatMap ptc), 28, true, 2⟩)]) (pre := [(1, ⟨(R1.flatMap ptc), 28, true, 2⟩), (3, ⟨(R3.flatMap ptc), 28, true, 2⟩)]) (post := [(1, ⟨(R1.flatMap ptc), 28, true, 2⟩), (3, ⟨(R3.flatMap ptc), 28, true, 2⟩)]) (v0 := .int .i64 (-1)) (v := .int .i64 (-1)) [1, 3] (by kernel_rfl) (by kernel_rfl) (by kernel_rfl) (by kernel_rfl) ((by have h := side_ok R1 R3 zR1 fR1 zR3 fR3 0 (by omega); rw [Sp.side_at F31.2.2 (by omega)] at h; exact h)) (.cons (.slice _ _ _ _ _ (by decide)) (.cons (.flatB (by kernel_rfl)) (.cons (.slice _ _ _ _ _ (by decide)) .nil))) ⟨rfl, ⟨rfl, rfl, rfl, (.flats (flats_pair _))⟩, rfl, ⟨rfl, rfl, rfl, (.flats (flats_pair _))⟩, trivial⟩ (by kernel_rfl) (by kernel_rfl) (by kernel_rfl) ⟨rfl, ⟨rfl, rfl, rfl, (.flats (flats_pair _))⟩, rfl, ⟨rfl, rfl, rfl, (.flats (flats_pair _))⟩, trivial⟩ (.flatB (by kernel_rfl))) <|
    .a 2 5 <| .nil _ _) ?_
  refine aw_fl 8122351 ?_
  refine aw_sk ?_
  refine block_normal ?_
  refine then_normal ?_
  refine aw_p1 (
    .a 2 5 <| .nil _ _) ?_
  refine then_normal ?_
  refine al_round ?_
  refine aw_p 126911 (
    .a 1 5 <| .nil _ _) ?_
  refine aw_sq 253822 253823 ?_
  refine aw_fl 507645 ?_
  refine aw_ex 2 ?_
  refine then_exit ?_
  refine then_exit ?_
  refine block_exit ?_
  refine block_normal ?_
  refine then_normal ?_
  refine aw_p1 (
    .a 2 5 <| .nil _ _) ?_
  refine then_normal ?_
  refine al_round ?_
  refine aw_p 495 (
    .a 1 5 <| .nil _ _) ?_
  refine aw_sq 990 991 ?_
  refine aw_tr 1980 ?_
  refine aw_sk ?_
  refine then_normal ?_
  refine aw_sq 1982 1983 ?_
  refine aw_bl 1 3965 ?_
  refine aw_p 7931 (
    .a 5 5 <| .nil _ _) ?_
  refine aw_p 15863 (
    .a 3 5 <| .nil _ _) ?_
  refine aw_bl 2 31727 ?_
  refine aw_lp 63455 ?_
  refine al_round ?_
  refine aw_p 126911 (
    .a 1 5 <| .nil _ _) ?_
  refine aw_sq 253822 253823 ?_
  refine aw_tr 507644 ?_
  refine aw_sk ?_
  refine then_normal ?_
  refine aw_sq 507646 507647 ?_
  refine aw_bl 3 1015293 ?_
  refine aw_p 2030587 (
    .a 5 5 <| .nil _ _) ?_
  refine aw_p 4061175 (
    .a 6 5 <|
    .p (does_callB (x := .func 58) (ars := #[.tmp 32, .const (.int .i64 0), .tmp 33]) (ats := #[30, 3, 30]) (g := 58) (vs := [.slice (some ⟨2, 0, none⟩) R2.length 0, .int .i64 0, .slice (some ⟨1, 0, none⟩) R1.length 0]) (m := 2) (r := 0) (firsts := #[]) (caps := #[]) (args0 := [.slice (some ⟨0, 0, none⟩) R2.length 0, .int .i64 0, .slice (some ⟨1, 0, none⟩) R1.length 0]) (pre0 := [(0, ⟨(R2.flatMap ptc), 28, true, 2⟩), (1, ⟨(R1.flatMap ptc), 28, true, 2⟩)]) (post0 := [(0, ⟨(R2.flatMap ptc), 28, true, 2⟩), (1, ⟨(R1.flatMap ptc), 28, true, 2⟩)]) (pre := [(2, ⟨(R2.flatMap ptc), 28, true, 2⟩), (1, ⟨(R1.flatMap ptc), 28, true, 2⟩)]) (post := [(2, ⟨(R2.flatMap ptc), 28, true, 2⟩), (1, ⟨(R1.flatMap ptc), 28, true, 2⟩)]) (v0 := .int .i64 1) (v := .int .i64 1) [2, 1] (by kernel_rfl) (by kernel_rfl) (by kernel_rfl) (by kernel_rfl) ((by have h := side_ok R2 R1 zR2 fR2 zR1 fR1 0 (by omega); rw [Sp.side_at F21.2.1 (by omega)] at h; exact h)) (.cons (.slice _ _ _ _ _ (by decide)) (.cons (.flatB (by kernel_rfl)) (.cons (.slice _ _ _ _ _ (by decide)) .nil))) ⟨rfl, ⟨rfl, rfl, rfl, (.flats (flats_pair _))⟩, rfl, ⟨rfl, rfl, rfl, (.flats (flats_pair _))⟩, trivial⟩ (by kernel_rfl) (by kernel_rfl) (by kernel_rfl) ⟨rfl, ⟨rfl, rfl, rfl, (.flats (flats_pair _))⟩, rfl, ⟨rfl, rfl, rfl, (.flats (flats_pair _))⟩, trivial⟩ (.flatB (by kernel_rfl))) <|
    .a 2 5 <| .nil _ _) ?_
  refine aw_tr 8122350 ?_
  refine aw_p1 (
    .a 7 5 <| .nil _ _) ?_
  refine block_normal ?_
  refine then_normal ?_
  refine aw_p1 (
    .a 2 5 <| .nil _ _) ?_
  refine then_normal ?_
  refine al_round ?_
  refine aw_p 126911 (
    .a 1 5 <| .nil _ _) ?_
  refine aw_sq 253822 253823 ?_
  refine aw_tr 507644 ?_
  refine aw_sk ?_
  refine then_normal ?_
  refine aw_sq 507646 507647 ?_
  refine aw_bl 3 1015293 ?_
  refine aw_p 2030587 (
    .a 5 5 <| .nil _ _) ?_
  refine aw_p 4061175 (
    .a 9 5 <| .nil _ _) ?_
  refine aw_fl 8122351 ?_
  refine aw_sk ?_
  refine block_normal ?_
  refine then_normal ?_
  refine aw_p1 (
    .a 2 5 <| .nil _ _) ?_
  refine then_normal ?_
  refine al_round ?_
  refine aw_p 126911 (
    .a 1 5 <| .nil _ _) ?_
  refine aw_sq 253822 253823 ?_
  refine aw_tr 507644 ?_
  refine aw_sk ?_
  refine then_normal ?_
  refine aw_sq 507646 507647 ?_
  refine aw_bl 3 1015293 ?_
  refine aw_p 2030587 (
    .a 5 5 <| .nil _ _) ?_
  refine aw_p 4061175 (
    .a 6 5 <|
    .p (does_callB (x := .func 58) (ars := #[.tmp 32, .const (.int .i64 0), .tmp 33]) (ats := #[30, 3, 30]) (g := 58) (vs := [.slice (some ⟨2, 0, none⟩) R2.length 0, .int .i64 0, .slice (some ⟨3, 0, none⟩) R3.length 0]) (m := 2) (r := 0) (firsts := #[]) (caps := #[]) (args0 := [.slice (some ⟨0, 0, none⟩) R2.length 0, .int .i64 0, .slice (some ⟨1, 0, none⟩) R3.length 0]) (pre0 := [(0, ⟨(R2.flatMap ptc), 28, true, 2⟩), (1, ⟨(R3.flatMap ptc), 28, true, 2⟩)]) (post0 := [(0, ⟨(R2.flatMap ptc), 28, true, 2⟩), (1, ⟨(R3.flatMap ptc), 28, true, 2⟩)]) (pre := [(2, ⟨(R2.flatMap ptc), 28, true, 2⟩), (3, ⟨(R3.flatMap ptc), 28, true, 2⟩)]) (post := [(2, ⟨(R2.flatMap ptc), 28, true, 2⟩), (3, ⟨(R3.flatMap ptc), 28, true, 2⟩)]) (v0 := .int .i64 (-1)) (v := .int .i64 (-1)) [2, 3] (by kernel_rfl) (by kernel_rfl) (by kernel_rfl) (by kernel_rfl) ((by have h := side_ok R2 R3 zR2 fR2 zR3 fR3 0 (by omega); rw [Sp.side_at F32.2.2 (by omega)] at h; exact h)) (.cons (.slice _ _ _ _ _ (by decide)) (.cons (.flatB (by kernel_rfl)) (.cons (.slice _ _ _ _ _ (by decide)) .nil))) ⟨rfl, ⟨rfl, rfl, rfl, (.flats (flats_pair _))⟩, rfl, ⟨rfl, rfl, rfl, (.flats (flats_pair _))⟩, trivial⟩ (by kernel_rfl) (by kernel_rfl) (by kernel_rfl) ⟨rfl, ⟨rfl, rfl, rfl, (.flats (flats_pair _))⟩, rfl, ⟨rfl, rfl, rfl, (.flats (flats_pair _))⟩, trivial⟩ (.flatB (by kernel_rfl))) <|
    .a 2 5 <| .nil _ _) ?_
  refine aw_fl 8122351 ?_
  refine aw_sk ?_
  refine block_normal ?_
  refine then_normal ?_
  refine aw_p1 (
    .a 2 5 <| .nil _ _) ?_
  refine then_normal ?_
  refine al_round ?_
  refine aw_p 126911 (
    .a 1 5 <| .nil _ _) ?_
  refine aw_sq 253822 253823 ?_
  refine aw_fl 507645 ?_
  refine aw_ex 2 ?_
  refine then_exit ?_
  refine then_exit ?_
  refine block_exit ?_
  refine block_normal ?_
  refine then_normal ?_
  refine aw_p1 (
    .a 2 5 <| .nil _ _) ?_
  refine then_normal ?_
  refine al_round ?_
  refine aw_p 495 (
    .a 1 5 <| .nil _ _) ?_
  refine aw_sq 990 991 ?_
  refine aw_tr 1980 ?_
  refine aw_sk ?_
  refine then_normal ?_
  refine aw_sq 1982 1983 ?_
  refine aw_bl 1 3965 ?_
  refine aw_p 7931 (
    .a 5 5 <| .nil _ _) ?_
  refine aw_p 15863 (
    .a 3 5 <| .nil _ _) ?_
  refine aw_bl 2 31727 ?_
  refine aw_lp 63455 ?_
  refine al_round ?_
  refine aw_p 126911 (
    .a 1 5 <| .nil _ _) ?_
  refine aw_sq 253822 253823 ?_
  refine aw_tr 507644 ?_
  refine aw_sk ?_
  refine then_normal ?_
  refine aw_sq 507646 507647 ?_
  refine aw_bl 3 1015293 ?_
  refine aw_p 2030587 (
    .a 5 5 <| .nil _ _) ?_
  refine aw_p 4061175 (
    .a 6 5 <|
    .p (does_callB (x := .func 58) (ars := #[.tmp 32, .const (.int .i64 0), .tmp 33]) (ats := #[30, 3, 30]) (g := 58) (vs := [.slice (some ⟨3, 0, none⟩) R3.length 0, .int .i64 0, .slice (some ⟨1, 0, none⟩) R1.length 0]) (m := 2) (r := 0) (firsts := #[]) (caps := #[]) (args0 := [.slice (some ⟨0, 0, none⟩) R3.length 0, .int .i64 0, .slice (some ⟨1, 0, none⟩) R1.length 0]) (pre0 := [(0, ⟨(R3.flatMap ptc), 28, true, 2⟩), (1, ⟨(R1.flatMap ptc), 28, true, 2⟩)]) (post0 := [(0, ⟨(R3.flatMap ptc), 28, true, 2⟩), (1, ⟨(R1.flatMap ptc), 28, true, 2⟩)]) (pre := [(3, ⟨(R3.flatMap ptc), 28, true, 2⟩), (1, ⟨(R1.flatMap ptc), 28, true, 2⟩)]) (post := [(3, ⟨(R3.flatMap ptc), 28, true, 2⟩), (1, ⟨(R1.flatMap ptc), 28, true, 2⟩)]) (v0 := .int .i64 1) (v := .int .i64 1) [3, 1] (by kernel_rfl) (by kernel_rfl) (by kernel_rfl) (by kernel_rfl) ((by have h := side_ok R3 R1 zR3 fR3 zR1 fR1 0 (by omega); rw [Sp.side_at F31.2.1 (by omega)] at h; exact h)) (.cons (.slice _ _ _ _ _ (by decide)) (.cons (.flatB (by kernel_rfl)) (.cons (.slice _ _ _ _ _ (by decide)) .nil))) ⟨rfl, ⟨rfl, rfl, rfl, (.flats (flats_pair _))⟩, rfl, ⟨rfl, rfl, rfl, (.flats (flats_pair _))⟩, trivial⟩ (by kernel_rfl) (by kernel_rfl) (by kernel_rfl) ⟨rfl, ⟨rfl, rfl, rfl, (.flats (flats_pair _))⟩, rfl, ⟨rfl, rfl, rfl, (.flats (flats_pair _))⟩, trivial⟩ (.flatB (by kernel_rfl))) <|
    .a 2 5 <| .nil _ _) ?_
  refine aw_tr 8122350 ?_
  refine aw_p1 (
    .a 7 5 <| .nil _ _) ?_
  refine block_normal ?_
  refine then_normal ?_
  refine aw_p1 (
    .a 2 5 <| .nil _ _) ?_
  refine then_normal ?_
  refine al_round ?_
  refine aw_p 126911 (
    .a 1 5 <| .nil _ _) ?_
  refine aw_sq 253822 253823 ?_
  refine aw_tr 507644 ?_
  refine aw_sk ?_
  refine then_normal ?_
  refine aw_sq 507646 507647 ?_
  refine aw_bl 3 1015293 ?_
  refine aw_p 2030587 (
    .a 5 5 <| .nil _ _) ?_
  refine aw_p 4061175 (
    .a 6 5 <|
    .p (does_callB (x := .func 58) (ars := #[.tmp 32, .const (.int .i64 0), .tmp 33]) (ats := #[30, 3, 30]) (g := 58) (vs := [.slice (some ⟨3, 0, none⟩) R3.length 0, .int .i64 0, .slice (some ⟨2, 0, none⟩) R2.length 0]) (m := 2) (r := 0) (firsts := #[]) (caps := #[]) (args0 := [.slice (some ⟨0, 0, none⟩) R3.length 0, .int .i64 0, .slice (some ⟨1, 0, none⟩) R2.length 0]) (pre0 := [(0, ⟨(R3.flatMap ptc), 28, true, 2⟩), (1, ⟨(R2.flatMap ptc), 28, true, 2⟩)]) (post0 := [(0, ⟨(R3.flatMap ptc), 28, true, 2⟩), (1, ⟨(R2.flatMap ptc), 28, true, 2⟩)]) (pre := [(3, ⟨(R3.flatMap ptc), 28, true, 2⟩), (2, ⟨(R2.flatMap ptc), 28, true, 2⟩)]) (post := [(3, ⟨(R3.flatMap ptc), 28, true, 2⟩), (2, ⟨(R2.flatMap ptc), 28, true, 2⟩)]) (v0 := .int .i64 1) (v := .int .i64 1) [3, 2] (by kernel_rfl) (by kernel_rfl) (by kernel_rfl) (by kernel_rfl) ((by have h := side_ok R3 R2 zR3 fR3 zR2 fR2 0 (by omega); rw [Sp.side_at F32.2.1 (by omega)] at h; exact h)) (.cons (.slice _ _ _ _ _ (by decide)) (.cons (.flatB (by kernel_rfl)) (.cons (.slice _ _ _ _ _ (by decide)) .nil))) ⟨rfl, ⟨rfl, rfl, rfl, (.flats (flats_pair _))⟩, rfl, ⟨rfl, rfl, rfl, (.flats (flats_pair _))⟩, trivial⟩ (by kernel_rfl) (by kernel_rfl) (by kernel_rfl) ⟨rfl, ⟨rfl, rfl, rfl, (.flats (flats_pair _))⟩, rfl, ⟨rfl, rfl, rfl, (.flats (flats_pair _))⟩, trivial⟩ (.flatB (by kernel_rfl))) <|
    .a 2 5 <| .nil _ _) ?_
  refine aw_tr 8122350 ?_
  refine aw_p1 (
    .a 7 5 <| .nil _ _) ?_
  refine block_normal ?_
  refine then_normal ?_
  refine aw_p1 (
    .a 2 5 <| .nil _ _) ?_
  refine then_normal ?_
  refine al_round ?_
  refine aw_p 126911 (
    .a 1 5 <| .nil _ _) ?_
  refine aw_sq 253822 253823 ?_
  refine aw_tr 507644 ?_
  refine aw_sk ?_
  refine then_normal ?_
  refine aw_sq 507646 507647 ?_
  refine aw_bl 3 1015293 ?_
  refine aw_p 2030587 (
    .a 5 5 <| .nil _ _) ?_
  refine aw_p 4061175 (
    .a 9 5 <| .nil _ _) ?_
  refine aw_fl 8122351 ?_
  refine aw_sk ?_
  refine block_normal ?_
  refine then_normal ?_
  refine aw_p1 (
    .a 2 5 <| .nil _ _) ?_
  refine then_normal ?_
  refine al_round ?_
  refine aw_p 126911 (
    .a 1 5 <| .nil _ _) ?_
  refine aw_sq 253822 253823 ?_
  refine aw_fl 507645 ?_
  refine aw_ex 2 ?_
  refine then_exit ?_
  refine then_exit ?_
  refine block_exit ?_
  refine block_normal ?_
  refine then_normal ?_
  refine aw_p1 (
    .a 2 5 <| .nil _ _) ?_
  refine then_normal ?_
  refine al_round ?_
  refine aw_p 495 (
    .a 1 5 <| .nil _ _) ?_
  refine aw_sq 990 991 ?_
  refine aw_fl 1981 ?_
  refine aw_ex 0 ?_
  refine then_exit ?_
  refine then_exit ?_
  refine block_exit ?_
  refine then_normal ?_
  refine aw_p 63 (
    .a 2 5 <| .nil _ _) ?_
  refine aw_rt ?_
  exact en_ret [.slice (some ⟨4, 0, none⟩) 3 0] (by kernel_rfl)

theorem adepth_s2 (R1 R2 : List (Int × Int)) (zR1 : 1 ≤ R1.length ∧ R1.length ≤ 200) (fR1 : Sp.Few 1000 R1) (zR2 : 1 ≤ R2.length ∧ R2.length ≤ 200) (fR2 : Sp.Few 1000 R2) (cR1 : Sp.chkF R1 = 0) (cR2 : Sp.chkF R2 = 0) (F21 : Sp.Fit R2 R1 (-1) (-1)) :
    AC Try.prog 13 3 ([.slice (some ⟨0, 0, none⟩) 2 0]) [(0, ⟨[.slice (some ⟨1, 0, none⟩) R1.length 0, .slice (some ⟨2, 0, none⟩) R2.length 0], 30, true, 1⟩), (1, ⟨(R1.flatMap ptc), 28, true, 2⟩), (2, ⟨(R2.flatMap ptc), 28, true, 2⟩)] (.slice (some ⟨3, 0, none⟩) 2 0) [(0, ⟨[.slice (some ⟨1, 0, none⟩) R1.length 0, .slice (some ⟨2, 0, none⟩) R2.length 0], 30, true, 1⟩), (1, ⟨(R1.flatMap ptc), 28, true, 2⟩), (2, ⟨(R2.flatMap ptc), 28, true, 2⟩), (3, ⟨[.int .i64 0, .int .i64 0], 3, true, 1⟩)] := by
  refine ac_in Try.func13 (fun w0 W pin => ?_)
  refine aw_p 3 (
    .a 1 3 <| .nil _ _) ?_
  refine aw_sq 6 7 ?_
  refine aw_p 13 (
    .a 1 3 <|
    .p (does_callB (x := .func 18) (ars := #[.tmp 8]) (ats := #[25]) (g := 18) (vs := [.slice (some ⟨0, 0, none⟩) 2 0]) (m := 3) (r := 0) (firsts := #[]) (caps := #[]) (args0 := [.slice (some ⟨0, 0, none⟩) 2 0]) (pre0 := [(0, ⟨[.slice (some ⟨1, 0, none⟩) R1.length 0, .slice (some ⟨2, 0, none⟩) R2.length 0], 30, true, 1⟩), (1, ⟨(R1.flatMap ptc), 28, true, 2⟩), (2, ⟨(R2.flatMap ptc), 28, true, 2⟩)]) (post0 := [(0, ⟨[.slice (some ⟨1, 0, none⟩) R1.length 0, .slice (some ⟨2, 0, none⟩) R2.length 0], 30, true, 1⟩), (1, ⟨(R1.flatMap ptc), 28, true, 2⟩), (2, ⟨(R2.flatMap ptc), 28, true, 2⟩)]) (pre := [(0, ⟨[.slice (some ⟨1, 0, none⟩) R1.length 0, .slice (some ⟨2, 0, none⟩) R2.length 0], 30, true, 1⟩), (1, ⟨(R1.flatMap ptc), 28, true, 2⟩), (2, ⟨(R2.flatMap ptc), 28, true, 2⟩)]) (post := [(0, ⟨[.slice (some ⟨1, 0, none⟩) R1.length 0, .slice (some ⟨2, 0, none⟩) R2.length 0], 30, true, 1⟩), (1, ⟨(R1.flatMap ptc), 28, true, 2⟩), (2, ⟨(R2.flatMap ptc), 28, true, 2⟩)]) (v0 := .int .i64 0) (v := .int .i64 0) [0, 1, 2] (by kernel_rfl) (by kernel_rfl) (by kernel_rfl) (by kernel_rfl) (acheck_s2 R1 R2 zR1 fR1 zR2 fR2 cR1 cR2 F21) (.cons (.slice _ _ _ _ _ (by decide)) .nil) ⟨rfl, ⟨rfl, rfl, rfl, (.cons (.slice _ _ _ _ _ (by decide)) (.cons (.slice _ _ _ _ _ (by decide)) .nil))⟩, rfl, ⟨rfl, rfl, rfl, (.flats (flats_pair _))⟩, rfl, ⟨rfl, rfl, rfl, (.flats (flats_pair _))⟩, trivial⟩ (by kernel_rfl) (by kernel_rfl) (by kernel_rfl) ⟨rfl, ⟨rfl, rfl, rfl, (.cons (.slice _ _ _ _ _ (by decide)) (.cons (.slice _ _ _ _ _ (by decide)) .nil))⟩, rfl, ⟨rfl, rfl, rfl, (.flats (flats_pair _))⟩, rfl, ⟨rfl, rfl, rfl, (.flats (flats_pair _))⟩, trivial⟩ (.flatB (by kernel_rfl))) <|
    .a 1 3 <| .nil _ _) ?_
  refine aw_fl 27 ?_
  refine aw_sk ?_
  refine then_normal ?_
  refine aw_p 15 (
    .a 2 3 <| .p (does_mk (kl := .i64) (kc := .i64) (n' := 2) (c' := 2) 3 3 1 8 2 2 (.int .i64 0) [.int .i64 0, .int .i64 0] (by kernel_rfl) (by kernel_rfl) (by kernel_rfl) (by kernel_rfl) (by decide) (by decide) (by decide) (by decide) (by decide)) <| .a 1 4 <| .nil _ _) ?_
  refine aw_sq 30 31 ?_
  refine aw_p 61 (
    .a 3 4 <| .nil _ _) ?_
  refine aw_bl 0 123 ?_
  refine aw_lp 247 ?_
  refine al_round ?_
  refine aw_p 495 (
    .a 1 4 <| .nil _ _) ?_
  refine aw_sq 990 991 ?_
  refine aw_tr 1980 ?_
  refine aw_sk ?_
  refine then_normal ?_
  refine aw_sq 1982 1983 ?_
  refine aw_bl 1 3965 ?_
  refine aw_p 7931 (
    .a 5 4 <| .nil _ _) ?_
  refine aw_p 15863 (
    .a 3 4 <| .nil _ _) ?_
  refine aw_bl 2 31727 ?_
  refine aw_lp 63455 ?_
  refine al_round ?_
  refine aw_p 126911 (
    .a 1 4 <| .nil _ _) ?_
  refine aw_sq 253822 253823 ?_
  refine aw_tr 507644 ?_
  refine aw_sk ?_
  refine then_normal ?_
  refine aw_sq 507646 507647 ?_
  refine aw_bl 3 1015293 ?_
  refine aw_p 2030587 (
    .a 5 4 <| .nil _ _) ?_
  refine aw_p 4061175 (
    .a 9 4 <| .nil _ _) ?_
  refine aw_fl 8122351 ?_
  refine aw_sk ?_
  refine block_normal ?_
  refine then_normal ?_
  refine aw_p1 (
    .a 2 4 <| .nil _ _) ?_
  refine then_normal ?_
  refine al_round ?_
  refine aw_p 126911 (
    .a 1 4 <| .nil _ _) ?_
  refine aw_sq 253822 253823 ?_
  refine aw_tr 507644 ?_
  refine aw_sk ?_
  refine then_normal ?_
  refine aw_sq 507646 507647 ?_
  refine aw_bl 3 1015293 ?_
  refine aw_p 2030587 (
    .a 5 4 <| .nil _ _) ?_
  refine aw_p 4061175 (
    .a 6 4 <|
    .p (does_callB (x := .func 58) (ars := #[.tmp 32, .const (.int .i64 0), .tmp 33]) (ats := #[30, 3, 30]) (g := 58) (vs := [.slice (some ⟨1, 0, none⟩) R1.length 0, .int .i64 0, .slice (some ⟨2, 0, none⟩) R2.length 0]) (m := 2) (r := 0) (firsts := #[]) (caps := #[]) (args0 := [.slice (some ⟨0, 0, none⟩) R1.length 0, .int .i64 0, .slice (some ⟨1, 0, none⟩) R2.length 0]) (pre0 := [(0, ⟨(R1.flatMap ptc), 28, true, 2⟩), (1, ⟨(R2.flatMap ptc), 28, true, 2⟩)]) (post0 := [(0, ⟨(R1.flatMap ptc), 28, true, 2⟩), (1, ⟨(R2.flatMap ptc), 28, true, 2⟩)]) (pre := [(1, ⟨(R1.flatMap ptc), 28, true, 2⟩), (2, ⟨(R2.flatMap ptc), 28, true, 2⟩)]) (post := [(1, ⟨(R1.flatMap ptc), 28, true, 2⟩), (2, ⟨(R2.flatMap ptc), 28, true, 2⟩)]) (v0 := .int .i64 (-1)) (v := .int .i64 (-1)) [1, 2] (by kernel_rfl) (by kernel_rfl) (by kernel_rfl) (by kernel_rfl) ((by have h := side_ok R1 R2 zR1 fR1 zR2 fR2 0 (by omega); rw [Sp.side_at F21.2.2 (by omega)] at h; exact h)) (.cons (.slice _ _ _ _ _ (by decide)) (.cons (.flatB (by kernel_rfl)) (.cons (.slice _ _ _ _ _ (by decide)) .nil))) ⟨rfl, ⟨rfl, rfl, rfl, (.flats (flats_pair _))⟩, rfl, ⟨rfl, rfl, rfl, (.flats (flats_pair _))⟩, trivial⟩ (by kernel_rfl) (by kernel_rfl) (by kernel_rfl) ⟨rfl, ⟨rfl, rfl, rfl, (.flats (flats_pair _))⟩, rfl, ⟨rfl, rfl, rfl, (.flats (flats_pair _))⟩, trivial⟩ (.flatB (by kernel_rfl))) <|
    .a 2 4 <| .nil _ _) ?_
  refine aw_fl 8122351 ?_
  refine aw_sk ?_
  refine block_normal ?_
  refine then_normal ?_
  refine aw_p1 (
    .a 2 4 <| .nil _ _) ?_
  refine then_normal ?_
  refine al_round ?_
  refine aw_p 126911 (
    .a 1 4 <| .nil _ _) ?_
  refine aw_sq 253822 253823 ?_
  refine aw_fl 507645 ?_
  refine aw_ex 2 ?_
  refine then_exit ?_
  refine then_exit ?_
  refine block_exit ?_
  refine block_normal ?_
  refine then_normal ?_
  refine aw_p1 (
    .a 2 4 <| .nil _ _) ?_
  refine then_normal ?_
  refine al_round ?_
  refine aw_p 495 (
    .a 1 4 <| .nil _ _) ?_
  refine aw_sq 990 991 ?_
  refine aw_tr 1980 ?_
  refine aw_sk ?_
  refine then_normal ?_
  refine aw_sq 1982 1983 ?_
  refine aw_bl 1 3965 ?_
  refine aw_p 7931 (
    .a 5 4 <| .nil _ _) ?_
  refine aw_p 15863 (
    .a 3 4 <| .nil _ _) ?_
  refine aw_bl 2 31727 ?_
  refine aw_lp 63455 ?_
  refine al_round ?_
  refine aw_p 126911 (
    .a 1 4 <| .nil _ _) ?_
  refine aw_sq 253822 253823 ?_
  refine aw_tr 507644 ?_
  refine aw_sk ?_
  refine then_normal ?_
  refine aw_sq 507646 507647 ?_
  refine aw_bl 3 1015293 ?_
  refine aw_p 2030587 (
    .a 5 4 <| .nil _ _) ?_
  refine aw_p 4061175 (
    .a 6 4 <|
    .p (does_callB (x := .func 58) (ars := #[.tmp 32, .const (.int .i64 0), .tmp 33]) (ats := #[30, 3, 30]) (g := 58) (vs := [.slice (some ⟨2, 0, none⟩) R2.length 0, .int .i64 0, .slice (some ⟨1, 0, none⟩) R1.length 0]) (m := 2) (r := 0) (firsts := #[]) (caps := #[]) (args0 := [.slice (some ⟨0, 0, none⟩) R2.length 0, .int .i64 0, .slice (some ⟨1, 0, none⟩) R1.length 0]) (pre0 := [(0, ⟨(R2.flatMap ptc), 28, true, 2⟩), (1, ⟨(R1.flatMap ptc), 28, true, 2⟩)]) (post0 := [(0, ⟨(R2.flatMap ptc), 28, true, 2⟩), (1, ⟨(R1.flatMap ptc), 28, true, 2⟩)]) (pre := [(2, ⟨(R2.flatMap ptc), 28, true, 2⟩), (1, ⟨(R1.flatMap ptc), 28, true, 2⟩)]) (post := [(2, ⟨(R2.flatMap ptc), 28, true, 2⟩), (1, ⟨(R1.flatMap ptc), 28, true, 2⟩)]) (v0 := .int .i64 (-1)) (v := .int .i64 (-1)) [2, 1] (by kernel_rfl) (by kernel_rfl) (by kernel_rfl) (by kernel_rfl) ((by have h := side_ok R2 R1 zR2 fR2 zR1 fR1 0 (by omega); rw [Sp.side_at F21.2.1 (by omega)] at h; exact h)) (.cons (.slice _ _ _ _ _ (by decide)) (.cons (.flatB (by kernel_rfl)) (.cons (.slice _ _ _ _ _ (by decide)) .nil))) ⟨rfl, ⟨rfl, rfl, rfl, (.flats (flats_pair _))⟩, rfl, ⟨rfl, rfl, rfl, (.flats (flats_pair _))⟩, trivial⟩ (by kernel_rfl) (by kernel_rfl) (by kernel_rfl) ⟨rfl, ⟨rfl, rfl, rfl, (.flats (flats_pair _))⟩, rfl, ⟨rfl, rfl, rfl, (.flats (flats_pair _))⟩, trivial⟩ (.flatB (by kernel_rfl))) <|
    .a 2 4 <| .nil _ _) ?_
  refine aw_fl 8122351 ?_
  refine aw_sk ?_
  refine block_normal ?_
  refine then_normal ?_
  refine aw_p1 (
    .a 2 4 <| .nil _ _) ?_
  refine then_normal ?_
  refine al_round ?_
  refine aw_p 126911 (
    .a 1 4 <| .nil _ _) ?_
  refine aw_sq 253822 253823 ?_
  refine aw_tr 507644 ?_
  refine aw_sk ?_
  refine then_normal ?_
  refine aw_sq 507646 507647 ?_
  refine aw_bl 3 1015293 ?_
  refine aw_p 2030587 (
    .a 5 4 <| .nil _ _) ?_
  refine aw_p 4061175 (
    .a 9 4 <| .nil _ _) ?_
  refine aw_fl 8122351 ?_
  refine aw_sk ?_
  refine block_normal ?_
  refine then_normal ?_
  refine aw_p1 (
    .a 2 4 <| .nil _ _) ?_
  refine then_normal ?_
  refine al_round ?_
  refine aw_p 126911 (
    .a 1 4 <| .nil _ _) ?_
  refine aw_sq 253822 253823 ?_
  refine aw_fl 507645 ?_
  refine aw_ex 2 ?_
  refine then_exit ?_
  refine then_exit ?_
  refine block_exit ?_
  refine block_normal ?_
  refine then_normal ?_
  refine aw_p1 (
    .a 2 4 <| .nil _ _) ?_
  refine then_normal ?_
  refine al_round ?_
  refine aw_p 495 (
    .a 1 4 <| .nil _ _) ?_
  refine aw_sq 990 991 ?_
  refine aw_fl 1981 ?_
  refine aw_ex 0 ?_
  refine then_exit ?_
  refine then_exit ?_
  refine block_exit ?_
  refine then_normal ?_
  refine aw_p 63 (
    .a 2 4 <| .nil _ _) ?_
  refine aw_rt ?_
  exact en_ret [.slice (some ⟨3, 0, none⟩) 2 0] (by kernel_rfl)

theorem mini_0  :
    AC Try.prog 14 1 ([.slice (some ⟨0, 0, none⟩) 1 0]) [(0, ⟨[.int .i64 0], 3, true, 1⟩)] (.int .i64 0) [(0, ⟨[.int .i64 0], 3, true, 1⟩)] := by
  refine ac_in Try.func14 (fun w0 W pin => ?_)
  refine aw_p 3 (
    .a 1 1 <| .nil _ _) ?_
  refine aw_sq 6 7 ?_
  refine aw_p 13 (
    .a 3 1 <| .nil _ _) ?_
  refine aw_fl 27 ?_
  refine aw_sk ?_
  refine then_normal ?_
  refine aw_p 15 (
    .a 4 1 <| .nil _ _) ?_
  refine aw_sq 30 31 ?_
  refine aw_p 61 (
    .a 1 1 <| .nil _ _) ?_
  refine aw_bl 0 123 ?_
  refine aw_lp 247 ?_
  refine al_round ?_
  refine aw_sq 494 495 ?_
  refine aw_p 989 (
    .a 4 1 <| .nil _ _) ?_
  refine aw_fl 1979 ?_
  refine aw_ex 0 ?_
  refine then_exit ?_
  refine then_exit ?_
  refine block_exit ?_
  refine then_normal ?_
  refine aw_p 63 (
    .a 2 1 <| .nil _ _) ?_
  refine aw_rt ?_
  exact en_ret [.int .i64 0] (by kernel_rfl)

theorem mini_0_0  :
    AC Try.prog 14 1 ([.slice (some ⟨0, 0, none⟩) 2 0]) [(0, ⟨[.int .i64 0, .int .i64 0], 3, true, 1⟩)] (.int .i64 0) [(0, ⟨[.int .i64 0, .int .i64 0], 3, true, 1⟩)] := by
  refine ac_in Try.func14 (fun w0 W pin => ?_)
  refine aw_p 3 (
    .a 1 1 <| .nil _ _) ?_
  refine aw_sq 6 7 ?_
  refine aw_p 13 (
    .a 3 1 <| .nil _ _) ?_
  refine aw_fl 27 ?_
  refine aw_sk ?_
  refine then_normal ?_
  refine aw_p 15 (
    .a 4 1 <| .nil _ _) ?_
  refine aw_sq 30 31 ?_
  refine aw_p 61 (
    .a 1 1 <| .nil _ _) ?_
  refine aw_bl 0 123 ?_
  refine aw_lp 247 ?_
  refine al_round ?_
  refine aw_sq 494 495 ?_
  refine aw_p 989 (
    .a 4 1 <| .nil _ _) ?_
  refine aw_tr 1978 ?_
  refine aw_sk ?_
  refine then_normal ?_
  refine aw_sq 990 991 ?_
  refine aw_bl 1 1981 ?_
  refine aw_p1 (
    .a 7 1 <| .nil _ _) ?_
  refine block_normal ?_
  refine then_normal ?_
  refine aw_p1 (
    .a 3 1 <| .nil _ _) ?_
  refine then_normal ?_
  refine al_round ?_
  refine aw_sq 494 495 ?_
  refine aw_p 989 (
    .a 4 1 <| .nil _ _) ?_
  refine aw_fl 1979 ?_
  refine aw_ex 0 ?_
  refine then_exit ?_
  refine then_exit ?_
  refine block_exit ?_
  refine then_normal ?_
  refine aw_p 63 (
    .a 2 1 <| .nil _ _) ?_
  refine aw_rt ?_
  exact en_ret [.int .i64 0] (by kernel_rfl)

theorem mini_0_1  :
    AC Try.prog 14 1 ([.slice (some ⟨0, 0, none⟩) 2 0]) [(0, ⟨[.int .i64 0, .int .i64 1], 3, true, 1⟩)] (.int .i64 0) [(0, ⟨[.int .i64 0, .int .i64 1], 3, true, 1⟩)] := by
  refine ac_in Try.func14 (fun w0 W pin => ?_)
  refine aw_p 3 (
    .a 1 1 <| .nil _ _) ?_
  refine aw_sq 6 7 ?_
  refine aw_p 13 (
    .a 3 1 <| .nil _ _) ?_
  refine aw_fl 27 ?_
  refine aw_sk ?_
  refine then_normal ?_
  refine aw_p 15 (
    .a 4 1 <| .nil _ _) ?_
  refine aw_sq 30 31 ?_
  refine aw_p 61 (
    .a 1 1 <| .nil _ _) ?_
  refine aw_bl 0 123 ?_
  refine aw_lp 247 ?_
  refine al_round ?_
  refine aw_sq 494 495 ?_
  refine aw_p 989 (
    .a 4 1 <| .nil _ _) ?_
  refine aw_tr 1978 ?_
  refine aw_sk ?_
  refine then_normal ?_
  refine aw_sq 990 991 ?_
  refine aw_bl 1 1981 ?_
  refine aw_p1 (
    .a 7 1 <| .nil _ _) ?_
  refine block_normal ?_
  refine then_normal ?_
  refine aw_p1 (
    .a 3 1 <| .nil _ _) ?_
  refine then_normal ?_
  refine al_round ?_
  refine aw_sq 494 495 ?_
  refine aw_p 989 (
    .a 4 1 <| .nil _ _) ?_
  refine aw_fl 1979 ?_
  refine aw_ex 0 ?_
  refine then_exit ?_
  refine then_exit ?_
  refine block_exit ?_
  refine then_normal ?_
  refine aw_p 63 (
    .a 2 1 <| .nil _ _) ?_
  refine aw_rt ?_
  exact en_ret [.int .i64 0] (by kernel_rfl)

theorem mini_0_1_2  :
    AC Try.prog 14 1 ([.slice (some ⟨0, 0, none⟩) 3 0]) [(0, ⟨[.int .i64 0, .int .i64 1, .int .i64 2], 3, true, 1⟩)] (.int .i64 0) [(0, ⟨[.int .i64 0, .int .i64 1, .int .i64 2], 3, true, 1⟩)] := by
  refine ac_in Try.func14 (fun w0 W pin => ?_)
  refine aw_p 3 (
    .a 1 1 <| .nil _ _) ?_
  refine aw_sq 6 7 ?_
  refine aw_p 13 (
    .a 3 1 <| .nil _ _) ?_
  refine aw_fl 27 ?_
  refine aw_sk ?_
  refine then_normal ?_
  refine aw_p 15 (
    .a 4 1 <| .nil _ _) ?_
  refine aw_sq 30 31 ?_
  refine aw_p 61 (
    .a 1 1 <| .nil _ _) ?_
  refine aw_bl 0 123 ?_
  refine aw_lp 247 ?_
  refine al_round ?_
  refine aw_sq 494 495 ?_
  refine aw_p 989 (
    .a 4 1 <| .nil _ _) ?_
  refine aw_tr 1978 ?_
  refine aw_sk ?_
  refine then_normal ?_
  refine aw_sq 990 991 ?_
  refine aw_bl 1 1981 ?_
  refine aw_p1 (
    .a 7 1 <| .nil _ _) ?_
  refine block_normal ?_
  refine then_normal ?_
  refine aw_p1 (
    .a 3 1 <| .nil _ _) ?_
  refine then_normal ?_
  refine al_round ?_
  refine aw_sq 494 495 ?_
  refine aw_p 989 (
    .a 4 1 <| .nil _ _) ?_
  refine aw_tr 1978 ?_
  refine aw_sk ?_
  refine then_normal ?_
  refine aw_sq 990 991 ?_
  refine aw_bl 1 1981 ?_
  refine aw_p1 (
    .a 7 1 <| .nil _ _) ?_
  refine block_normal ?_
  refine then_normal ?_
  refine aw_p1 (
    .a 3 1 <| .nil _ _) ?_
  refine then_normal ?_
  refine al_round ?_
  refine aw_sq 494 495 ?_
  refine aw_p 989 (
    .a 4 1 <| .nil _ _) ?_
  refine aw_fl 1979 ?_
  refine aw_ex 0 ?_
  refine then_exit ?_
  refine then_exit ?_
  refine block_exit ?_
  refine then_normal ?_
  refine aw_p 63 (
    .a 2 1 <| .nil _ _) ?_
  refine aw_rt ?_
  exact en_ret [.int .i64 0] (by kernel_rfl)


end Go.Proofs.Ytndkhgfecnbmnaa.Am
