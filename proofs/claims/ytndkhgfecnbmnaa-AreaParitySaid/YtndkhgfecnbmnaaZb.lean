/-
  What is asked ahead of the laws of areas.
-/
import Derived.Test.YtndkhgfecnbmnaaProg
import Derived.Test.YtndkhgfecnbmnaaAm16
import Derived.Test.YtndkhgfecnbmnaaZ5
import Derived.Test.YtndkhgfecnbmnaaZr
import Derived.Test.YtndkhgfecnbmnaaRa3
import Derived.Test.YtndkhgfecnbmnaaPt1
namespace Go.Proofs.Ytndkhgfecnbmnaa.Am
open Go Go.Proofs
set_option maxRecDepth 100000
set_option maxHeartbeats 4000000
set_option linter.unusedVariables false
set_option linter.unusedSimpArgs false

theorem atwice_b (R1 R2 : List (Int × Int)) (zR1 : 1 ≤ R1.length ∧ R1.length ≤ 200) (fR1 : Sp.Few 1000 R1) (zR2 : 1 ≤ R2.length ∧ R2.length ≤ 200) (fR2 : Sp.Few 1000 R2) (cR1 : Sp.chkF R1 = 0) (cR2 : Sp.chkF R2 = 0) (F21 : Sp.Fit R2 R1 1 (-1)) (t1 : Sp.twF R1 1 0 = 32) (t2 : Sp.twF R2 1 0 = 2) :
    AC Try.prog 21 3 ([.slice (some ⟨0, 0, none⟩) 2 0]) [(0, ⟨[.slice (some ⟨1, 0, none⟩) R1.length 0, .slice (some ⟨2, 0, none⟩) R2.length 0], 30, true, 1⟩), (1, ⟨(R1.flatMap ptc), 28, true, 2⟩), (2, ⟨(R2.flatMap ptc), 28, true, 2⟩)] (.int .i64 30) [(0, ⟨[.slice (some ⟨1, 0, none⟩) R1.length 0, .slice (some ⟨2, 0, none⟩) R2.length 0], 30, true, 1⟩), (1, ⟨(R1.flatMap ptc), 28, true, 2⟩), (2, ⟨(R2.flatMap ptc), 28, true, 2⟩)] := by
  refine ac_in Try.func21 (fun w0 W pin => ?_)
  refine aw_p 3 (
    .a 1 3 <| .nil _ _) ?_
  refine aw_p 7 (
    .a 1 3 <| .nil _ _) ?_
  refine aw_sq 14 15 ?_
  refine aw_p 29 (
    .a 1 3 <|
    .p (does_callB (x := .func 13) (ars := #[.tmp 7]) (ats := #[25]) (g := 13) (vs := [.slice (some ⟨0, 0, none⟩) 2 0]) (m := 3) (r := 1) (firsts := #[]) (caps := #[]) (args0 := [.slice (some ⟨0, 0, none⟩) 2 0]) (pre0 := [(0, ⟨[.slice (some ⟨1, 0, none⟩) R1.length 0, .slice (some ⟨2, 0, none⟩) R2.length 0], 30, true, 1⟩), (1, ⟨(R1.flatMap ptc), 28, true, 2⟩), (2, ⟨(R2.flatMap ptc), 28, true, 2⟩)]) (post0 := [(0, ⟨[.slice (some ⟨1, 0, none⟩) R1.length 0, .slice (some ⟨2, 0, none⟩) R2.length 0], 30, true, 1⟩), (1, ⟨(R1.flatMap ptc), 28, true, 2⟩), (2, ⟨(R2.flatMap ptc), 28, true, 2⟩), (3, ⟨[.int .i64 0, .int .i64 1], 3, true, 1⟩)]) (pre := [(0, ⟨[.slice (some ⟨1, 0, none⟩) R1.length 0, .slice (some ⟨2, 0, none⟩) R2.length 0], 30, true, 1⟩), (1, ⟨(R1.flatMap ptc), 28, true, 2⟩), (2, ⟨(R2.flatMap ptc), 28, true, 2⟩)]) (post := [(0, ⟨[.slice (some ⟨1, 0, none⟩) R1.length 0, .slice (some ⟨2, 0, none⟩) R2.length 0], 30, true, 1⟩), (1, ⟨(R1.flatMap ptc), 28, true, 2⟩), (2, ⟨(R2.flatMap ptc), 28, true, 2⟩), (3, ⟨[.int .i64 0, .int .i64 1], 3, true, 1⟩)]) (v0 := .slice (some ⟨3, 0, none⟩) 2 0) (v := .slice (some ⟨3, 0, none⟩) 2 0) [0, 1, 2, 3] (by kernel_rfl) (by kernel_rfl) (by kernel_rfl) (by kernel_rfl) (adepth_n2 R1 R2 zR1 fR1 zR2 fR2 cR1 cR2 F21) (.cons (.slice _ _ _ _ _ (by decide)) .nil) ⟨rfl, ⟨rfl, rfl, rfl, (.cons (.slice _ _ _ _ _ (by decide)) (.cons (.slice _ _ _ _ _ (by decide)) .nil))⟩, rfl, ⟨rfl, rfl, rfl, (.flats (flats_pair _))⟩, rfl, ⟨rfl, rfl, rfl, (.flats (flats_pair _))⟩, trivial⟩ (by kernel_rfl) (by kernel_rfl) (by kernel_rfl) ⟨rfl, ⟨rfl, rfl, rfl, (.cons (.slice _ _ _ _ _ (by decide)) (.cons (.slice _ _ _ _ _ (by decide)) .nil))⟩, rfl, ⟨rfl, rfl, rfl, (.flats (flats_pair _))⟩, rfl, ⟨rfl, rfl, rfl, (.flats (flats_pair _))⟩, rfl, ⟨rfl, rfl, rfl, (.flats (by kernel_rfl))⟩, trivial⟩ (.slice _ _ _ _ _ (by decide))) <|
    .a 2 4 <| .nil _ _) ?_
  refine aw_bl 0 59 ?_
  refine aw_lp 119 ?_
  refine al_round ?_
  refine aw_p 239 (
    .a 1 4 <| .nil _ _) ?_
  refine aw_sq 478 479 ?_
  refine aw_tr 956 ?_
  refine aw_sk ?_
  refine then_normal ?_
  refine aw_sq 958 959 ?_
  refine aw_bl 1 1917 ?_
  refine aw_p 3835 (
    .a 5 4 <| .nil _ _) ?_
  refine aw_p 7671 (
    .a 4 4 <|
    .p (does_callB (x := .func 39) (ars := #[.tmp 18]) (ats := #[30]) (g := 39) (vs := [.slice (some ⟨1, 0, none⟩) R1.length 0]) (m := 1) (r := 0) (firsts := #[]) (caps := #[]) (args0 := [.slice (some ⟨0, 0, none⟩) R1.length 0]) (pre0 := [(0, ⟨(R1.flatMap ptc), 28, true, 2⟩)]) (post0 := [(0, ⟨(R1.flatMap ptc), 28, true, 2⟩)]) (pre := [(1, ⟨(R1.flatMap ptc), 28, true, 2⟩)]) (post := [(1, ⟨(R1.flatMap ptc), 28, true, 2⟩)]) (v0 := .int .i64 32) (v := .int .i64 32) [1] (by kernel_rfl) (by kernel_rfl) (by kernel_rfl) (by kernel_rfl) ((by have h := twicen_own R1 R1.length rfl (by omega); rw [t1] at h; exact h)) (.cons (.slice _ _ _ _ _ (by decide)) .nil) ⟨rfl, ⟨rfl, rfl, rfl, (.flats (flats_pair _))⟩, trivial⟩ (by kernel_rfl) (by kernel_rfl) (by kernel_rfl) ⟨rfl, ⟨rfl, rfl, rfl, (.flats (flats_pair _))⟩, trivial⟩ (.flatB (by kernel_rfl))) <|
    .a 1 4 <| .nil _ _) ?_
  refine aw_p 15343 (
    .a 5 4 <| .nil _ _) ?_
  refine aw_sq 30686 30687 ?_
  refine aw_p 61373 (
    .a 3 4 <| .nil _ _) ?_
  refine aw_fl 122747 ?_
  refine aw_sk ?_
  refine then_normal ?_
  refine aw_p1 (
    .a 4 4 <| .nil _ _) ?_
  refine block_normal ?_
  refine then_normal ?_
  refine aw_p1 (
    .a 2 4 <| .nil _ _) ?_
  refine then_normal ?_
  refine al_round ?_
  refine aw_p 239 (
    .a 1 4 <| .nil _ _) ?_
  refine aw_sq 478 479 ?_
  refine aw_tr 956 ?_
  refine aw_sk ?_
  refine then_normal ?_
  refine aw_sq 958 959 ?_
  refine aw_bl 1 1917 ?_
  refine aw_p 3835 (
    .a 5 4 <| .nil _ _) ?_
  refine aw_p 7671 (
    .a 4 4 <|
    .p (does_callB (x := .func 39) (ars := #[.tmp 18]) (ats := #[30]) (g := 39) (vs := [.slice (some ⟨2, 0, none⟩) R2.length 0]) (m := 1) (r := 0) (firsts := #[]) (caps := #[]) (args0 := [.slice (some ⟨0, 0, none⟩) R2.length 0]) (pre0 := [(0, ⟨(R2.flatMap ptc), 28, true, 2⟩)]) (post0 := [(0, ⟨(R2.flatMap ptc), 28, true, 2⟩)]) (pre := [(2, ⟨(R2.flatMap ptc), 28, true, 2⟩)]) (post := [(2, ⟨(R2.flatMap ptc), 28, true, 2⟩)]) (v0 := .int .i64 2) (v := .int .i64 2) [2] (by kernel_rfl) (by kernel_rfl) (by kernel_rfl) (by kernel_rfl) ((by have h := twicen_own R2 R2.length rfl (by omega); rw [t2] at h; exact h)) (.cons (.slice _ _ _ _ _ (by decide)) .nil) ⟨rfl, ⟨rfl, rfl, rfl, (.flats (flats_pair _))⟩, trivial⟩ (by kernel_rfl) (by kernel_rfl) (by kernel_rfl) ⟨rfl, ⟨rfl, rfl, rfl, (.flats (flats_pair _))⟩, trivial⟩ (.flatB (by kernel_rfl))) <|
    .a 1 4 <| .nil _ _) ?_
  refine aw_p 15343 (
    .a 5 4 <| .nil _ _) ?_
  refine aw_sq 30686 30687 ?_
  refine aw_p 61373 (
    .a 3 4 <| .nil _ _) ?_
  refine aw_tr 122746 ?_
  refine aw_p1 (
    .a 3 4 <| .nil _ _) ?_
  refine then_normal ?_
  refine aw_p1 (
    .a 4 4 <| .nil _ _) ?_
  refine block_normal ?_
  refine then_normal ?_
  refine aw_p1 (
    .a 2 4 <| .nil _ _) ?_
  refine then_normal ?_
  refine al_round ?_
  refine aw_p 239 (
    .a 1 4 <| .nil _ _) ?_
  refine aw_sq 478 479 ?_
  refine aw_fl 957 ?_
  refine aw_ex 0 ?_
  refine then_exit ?_
  refine then_exit ?_
  refine block_exit ?_
  refine then_normal ?_
  refine aw_p 31 (
    .a 2 4 <| .nil _ _) ?_
  refine aw_rt ?_
  exact en_ret [.int .i64 30] (by kernel_rfl)

theorem aua_121  :
    AC Try.prog 38 0 ([.slice none 0 0]) [] (.int .i64 3) [] := by
  refine ac_in Try.func38 (fun w0 W pin => ?_)
  refine aw_p 3 (
    .a 1 1 <| .nil _ _) ?_
  refine aw_p 7 (
    .a 3 1 <| .nil _ _) ?_
  refine aw_sq 14 15 ?_
  refine aw_bl 0 29 ?_
  refine aw_p 59 (
    .a 3 1 <| .nil _ _) ?_
  refine aw_fl 119 ?_
  refine aw_p 239 (
    .a 3 1 <| .nil _ _) ?_
  refine aw_tr 478 ?_
  refine aw_p 957 (
    .a 1 1 <| .nil _ _) ?_
  refine aw_rt ?_
  refine block_ret ?_
  refine then_ret ?_
  exact en_ret [.int .i64 3] (by kernel_rfl)

theorem aua_122  :
    AC Try.prog 18 1 ([.slice (some ⟨0, 0, none⟩) 1 0]) [(0, ⟨[.slice none 0 0], 30, true, 1⟩)] (.int .i64 3) [(0, ⟨[.slice none 0 0], 30, true, 1⟩)] := by
  refine ac_in Try.func18 (fun w0 W pin => ?_)
  refine aw_p 3 (
    .a 1 1 <| .nil _ _) ?_
  refine aw_sq 6 7 ?_
  refine aw_p 13 (
    .a 3 1 <| .nil _ _) ?_
  refine aw_fl 27 ?_
  refine aw_sk ?_
  refine then_normal ?_
  refine aw_sq 14 15 ?_
  refine aw_p 29 (
    .a 3 1 <| .nil _ _) ?_
  refine aw_bl 0 59 ?_
  refine aw_lp 119 ?_
  refine al_round ?_
  refine aw_p 239 (
    .a 1 1 <| .nil _ _) ?_
  refine aw_sq 478 479 ?_
  refine aw_tr 956 ?_
  refine aw_sk ?_
  refine then_normal ?_
  refine aw_sq 958 959 ?_
  refine aw_bl 1 1917 ?_
  refine aw_p 3835 (
    .a 3 1 <| .nil _ _) ?_
  refine aw_p 7671 (
    .a 1 1 <| .p (does_c (aua_121)) <| .a 1 1 <| .nil _ _) ?_
  refine aw_p 15343 (
    .a 2 1 <| .nil _ _) ?_
  refine aw_tr 30686 ?_
  refine aw_p 61373 (
    .a 2 1 <| .nil _ _) ?_
  refine aw_rt ?_
  refine block_ret ?_
  refine then_ret ?_
  refine then_ret ?_
  refine block_ret ?_
  refine then_ret ?_
  exact en_ret [.int .i64 3] (by kernel_rfl)

theorem areaBegun_ok  :
    AC Try.prog 8 0 ([]) [] (.bool true) [] := by
  refine ac_in Try.func8 (fun w0 W pin => ?_)
  refine aw_p 3 (
    .a 1 1 <| .nil _ _) ?_
  refine aw_p 7 (
    .p (does_c (terrkeep1_at_ok 0 0)) <| .p (does_c (terrkeep1_at_ok 4 0)) <| .p (does_c (terrkeep1_at_ok 4 4)) <| .p (does_c (terrkeep1_at_ok 0 4)) <| .a 1 1 <| .p (does_c (terrkeep1_at_ok 1 1)) <| .p (does_c (terrkeep1_at_ok 2 1)) <| .p (does_c (terrkeep1_at_ok 2 2)) <|
    .p (does_c (terrkeep1_at_ok 1 2)) <| .a 3 2 <| .nil _ _) ?_
  refine aw_p 15 (
    .p (does_c (terrkeep1_ringBegun_ok)) <| .a 2 4 <|
    .p (does_callB (x := .func 21) (ars := #[.tmp 15]) (ats := #[25]) (g := 21) (vs := [.slice (some ⟨3, 0, none⟩) 2 0]) (m := 3) (r := 0) (firsts := #[]) (caps := #[]) (args0 := [.slice (some ⟨0, 0, none⟩) 2 0]) (pre0 := [(0, ⟨[.slice (some ⟨1, 0, none⟩) 4 0, .slice (some ⟨2, 0, none⟩) 4 0], 30, true, 1⟩), (1, ⟨(Sp.bg1.flatMap ptc), 28, true, 2⟩), (2, ⟨(Sp.bg2.flatMap ptc), 28, true, 2⟩)]) (post0 := [(0, ⟨[.slice (some ⟨1, 0, none⟩) 4 0, .slice (some ⟨2, 0, none⟩) 4 0], 30, true, 1⟩), (1, ⟨(Sp.bg1.flatMap ptc), 28, true, 2⟩), (2, ⟨(Sp.bg2.flatMap ptc), 28, true, 2⟩)]) (pre := [(3, ⟨[.slice (some ⟨1, 0, none⟩) 4 0, .slice (some ⟨2, 0, none⟩) 4 0], 30, true, 1⟩), (1, ⟨[.int .i64 0, .int .i64 0, .int .i64 4, .int .i64 0, .int .i64 4, .int .i64 4, .int .i64 0, .int .i64 4], 28, true, 2⟩), (2, ⟨[.int .i64 1, .int .i64 1, .int .i64 2, .int .i64 1, .int .i64 2, .int .i64 2, .int .i64 1, .int .i64 2], 28, true, 2⟩)]) (post := [(3, ⟨[.slice (some ⟨1, 0, none⟩) 4 0, .slice (some ⟨2, 0, none⟩) 4 0], 30, true, 1⟩), (1, ⟨[.int .i64 0, .int .i64 0, .int .i64 4, .int .i64 0, .int .i64 4, .int .i64 4, .int .i64 0, .int .i64 4], 28, true, 2⟩), (2, ⟨[.int .i64 1, .int .i64 1, .int .i64 2, .int .i64 1, .int .i64 2, .int .i64 2, .int .i64 1, .int .i64 2], 28, true, 2⟩)]) (v0 := .int .i64 30) (v := .int .i64 30) [3, 1, 2] (by kernel_rfl) (by kernel_rfl) (by kernel_rfl) (by kernel_rfl) (atwice_b Sp.bg1 Sp.bg2 (by decide) (Sp.few_le Sp.bg_few.1 (by decide)) (by decide) (Sp.few_le Sp.bg_few.2 (by decide)) Sp.bg_chk.1 Sp.bg_chk.2 Sp.bg_fit Sp.bg_tw.1 Sp.bg_tw.2) (.cons (.slice _ _ _ _ _ (by decide)) .nil) ⟨rfl, ⟨rfl, rfl, rfl, (.cons (.slice _ _ _ _ _ (by decide)) (.cons (.slice _ _ _ _ _ (by decide)) .nil))⟩, rfl, ⟨rfl, rfl, rfl, (.flats (flats_pair _))⟩, rfl, ⟨rfl, rfl, rfl, (.flats (flats_pair _))⟩, trivial⟩ (by kernel_rfl) (by kernel_rfl) (by kernel_rfl) ⟨rfl, ⟨rfl, rfl, rfl, (.cons (.slice _ _ _ _ _ (by decide)) (.cons (.slice _ _ _ _ _ (by decide)) .nil))⟩, rfl, ⟨rfl, rfl, rfl, (.flats (flats_pair _))⟩, rfl, ⟨rfl, rfl, rfl, (.flats (flats_pair _))⟩, trivial⟩ (.flatB (by kernel_rfl))) <|
    .a 4 4 <| .p (does_k [4] (aua_122)) <| .a 3 5 <| .nil _ _) ?_
  refine aw_rt ?_
  exact en_ret [.bool true] (by kernel_rfl)


end Go.Proofs.Ytndkhgfecnbmnaa.Am
