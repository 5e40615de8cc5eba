/-
  The walk of the law RingTells.
-/
import Derived.Test.YtigllakcfdoagaaProg
import Derived.Test.YtigllakcfdoagaaAm16
import Derived.Test.YtigllakcfdoagaaRh
import Derived.Test.YtigllakcfdoagaaRi
import Derived.Test.YtigllakcfdoagaaRk3
import Derived.Test.YtigllakcfdoagaaRd
import Derived.Test.YtigllakcfdoagaaRn3
import Derived.Test.YtigllakcfdoagaaRnd3
import Derived.Test.YtigllakcfdoagaaRb1
namespace Go.Proofs.Ytigllakcfdoagaa.Am
open Go Go.Proofs
set_option maxRecDepth 100000
set_option maxHeartbeats 4000000
set_option linter.unusedVariables false
set_option linter.unusedSimpArgs false

theorem ringTells_walk (ps : List (Int × Int)) (hz : ps.length ≤ 9223372036854775807) (px py : Int) :
    AC Try.prog 9 1 ([.slice (some ⟨0, 0, none⟩) ps.length 0, .agg #[.int .i64 px, .int .i64 py]]) [(0, ⟨(ps.flatMap ptc), 24, false, 2⟩)] (.bool true) [] := by
  have qpx := Sp.lim_bd (m := 1048576) (by decide) px; have qpy := Sp.lim_bd (m := 1048576) (by decide) py
  refine ac_in Try.func9 (fun w0 W pin => ?_)
  refine aw_p 3 (
    .a 2 1 <| .nil _ _) ?_
  refine aw_p 7 (
    .a 1 2 <| .p (does_c (rvalid_ok px py)) <| .a 2 2 <| .nil _ _) ?_
  refine aw_sq 14 15 ?_
  refine aw_d 29 (
    .p (does_c (terrlaw1_ringBegun_ok)) <| .a 3 3 <|
    .p (does_callB (x := .func 54) (ars := #[.tmp 11]) (ats := #[37]) (g := 54) (vs := [.slice (some ⟨0, 0, none⟩) ps.length 0]) (m := 1) (r := 0) (firsts := #[]) (caps := #[]) (args0 := [.slice (some ⟨0, 0, none⟩) ps.length 0]) (pre0 := [(0, ⟨(ps.flatMap ptc), 24, false, 2⟩)]) (post0 := []) (pre := [(0, ⟨(ps.flatMap ptc), 24, false, 2⟩)]) (post := []) (v0 := .int .i64 (Sp.chkF ps)) (v := .int .i64 (Sp.chkF ps)) [0] (by kernel_rfl) (by kernel_rfl) (by kernel_rfl) (by kernel_rfl) (chkn_ro ps ps.length (rfl) (by first | omega | decide)) (.cons (.slice _ _ _ _ _ (by decide)) .nil) ⟨rfl, ⟨rfl, rfl, rfl, (.flats (flats_pair _))⟩, trivial⟩ (by kernel_rfl) (by kernel_rfl) (by kernel_rfl) trivial (.flatB (by kernel_rfl))) <|
    .a 1 3 <|
    .p (does_callB (x := .func 55) (ars := #[.tmp 13]) (ats := #[37]) (g := 55) (vs := [.slice (some ⟨0, 0, none⟩) ps.length 0]) (m := 1) (r := 0) (firsts := #[]) (caps := #[]) (args0 := [.slice (some ⟨0, 0, none⟩) ps.length 0]) (pre0 := [(0, ⟨(ps.flatMap ptc), 24, false, 2⟩)]) (post0 := []) (pre := [(0, ⟨(ps.flatMap ptc), 24, false, 2⟩)]) (post := []) (v0 := .int .i64 (Sp.chkF ps)) (v := .int .i64 (Sp.chkF ps)) [0] (by kernel_rfl) (by kernel_rfl) (by kernel_rfl) (by kernel_rfl) (rgn_ro ps ps.length (rfl) (by first | omega | decide)) (.cons (.slice _ _ _ _ _ (by decide)) .nil) ⟨rfl, ⟨rfl, rfl, rfl, (.flats (flats_pair _))⟩, trivial⟩ (by kernel_rfl) (by kernel_rfl) (by kernel_rfl) trivial (.flatB (by kernel_rfl))) <|
    .p (does_b false ((show ((Sp.chkF ps) != (Sp.chkF ps)) = false from by simp))) <| .a 3 3 <|
    .p (does_callB (x := .func 56) (ars := #[.tmp 18]) (ats := #[37]) (g := 56) (vs := [.slice (some ⟨0, 0, none⟩) ps.length 0]) (m := 1) (r := 0) (firsts := #[]) (caps := #[]) (args0 := [.slice (some ⟨0, 0, none⟩) ps.length 0]) (pre0 := [(0, ⟨(ps.flatMap ptc), 24, false, 2⟩)]) (post0 := []) (pre := [(0, ⟨(ps.flatMap ptc), 24, false, 2⟩)]) (post := []) (v0 := .int .i64 (Sp.twF ps 1 0)) (v := .int .i64 (Sp.twF ps 1 0)) [0] (by kernel_rfl) (by kernel_rfl) (by kernel_rfl) (by kernel_rfl) (twicen_ro ps ps.length (rfl) (by first | omega | decide)) (.cons (.slice _ _ _ _ _ (by decide)) .nil) ⟨rfl, ⟨rfl, rfl, rfl, (.flats (flats_pair _))⟩, trivial⟩ (by kernel_rfl) (by kernel_rfl) (by kernel_rfl) trivial (.flatB (by kernel_rfl))) <|
    .a 1 3 <|
    .p (does_callB (x := .func 57) (ars := #[.tmp 20]) (ats := #[37]) (g := 57) (vs := [.slice (some ⟨0, 0, none⟩) ps.length 0]) (m := 1) (r := 0) (firsts := #[]) (caps := #[]) (args0 := [.slice (some ⟨0, 0, none⟩) ps.length 0]) (pre0 := [(0, ⟨(ps.flatMap ptc), 24, false, 2⟩)]) (post0 := []) (pre := [(0, ⟨(ps.flatMap ptc), 24, false, 2⟩)]) (post := []) (v0 := .int .i64 (Sp.dblF ps 0 0)) (v := .int .i64 (Sp.dblF ps 0 0)) [0] (by kernel_rfl) (by kernel_rfl) (by kernel_rfl) (by kernel_rfl) (dbln_ro ps ps.length (rfl) (by first | omega | decide)) (.cons (.slice _ _ _ _ _ (by decide)) .nil) ⟨rfl, ⟨rfl, rfl, rfl, (.flats (flats_pair _))⟩, trivial⟩ (by kernel_rfl) (by kernel_rfl) (by kernel_rfl) trivial (.flatB (by kernel_rfl))) <|
    .p (does_b false ((show ((Sp.twF ps 1 0) != (Sp.dblF ps 0 0)) = false from (by rw [Sp.dblF_twF]; simp)))) <| .a 4 3 <|
    .p (does_callB (x := .func 58) (ars := #[.tmp 25, .tmp 26]) (ats := #[37, 24]) (g := 58) (vs := [.slice (some ⟨0, 0, none⟩) ps.length 0, .agg #[.int .i64 px, .int .i64 py]]) (m := 1) (r := 0) (firsts := #[]) (caps := #[]) (args0 := [.slice (some ⟨0, 0, none⟩) ps.length 0, .agg #[.int .i64 px, .int .i64 py]]) (pre0 := [(0, ⟨(ps.flatMap ptc), 24, false, 2⟩)]) (post0 := []) (pre := [(0, ⟨(ps.flatMap ptc), 24, false, 2⟩)]) (post := []) (v0 := .int .i64 (Sp.hasF ps (Sp.lim 1048576 px) (Sp.lim 1048576 py) 0 (-1))) (v := .int .i64 (Sp.hasF ps (Sp.lim 1048576 px) (Sp.lim 1048576 py) 0 (-1))) [0] (by kernel_rfl) (by kernel_rfl) (by kernel_rfl) (by kernel_rfl) (hasn_ro ps ps.length (rfl) (by first | omega | decide) px py) (.cons (.slice _ _ _ _ _ (by decide)) (.cons (.flatB (by kernel_rfl)) .nil)) ⟨rfl, ⟨rfl, rfl, rfl, (.flats (flats_pair _))⟩, trivial⟩ (by kernel_rfl) (by kernel_rfl) (by kernel_rfl) trivial (.flatB (by kernel_rfl))) <|
    .a 3 3 <| .p (does_i (2 * (Sp.lim 1048576 px)) (wrap_i64 (by omega) (by omega)) .i64) <| .a 2 3 <| .p (does_i (2 * (Sp.lim 1048576 py)) (wrap_i64 (by omega) (by omega)) .i64) <|
    .p (does_callB (x := .func 59) (ars := #[.tmp 28, .tmp 31, .tmp 34]) (ats := #[37, 3, 3]) (g := 59) (vs := [.slice (some ⟨0, 0, none⟩) ps.length 0, .int .i64 (2 * (Sp.lim 1048576 px)), .int .i64 (2 * (Sp.lim 1048576 py))]) (m := 1) (r := 0) (firsts := #[]) (caps := #[]) (args0 := [.slice (some ⟨0, 0, none⟩) ps.length 0, .int .i64 (2 * (Sp.lim 1048576 px)), .int .i64 (2 * (Sp.lim 1048576 py))]) (pre0 := [(0, ⟨(ps.flatMap ptc), 24, false, 2⟩)]) (post0 := []) (pre := [(0, ⟨(ps.flatMap ptc), 24, false, 2⟩)]) (post := []) (v0 := .int .i64 (Sp.insF ps (2 * (Sp.lim 1048576 px)) (2 * (Sp.lim 1048576 py)) 0 0)) (v := .int .i64 (Sp.insF ps (2 * (Sp.lim 1048576 px)) (2 * (Sp.lim 1048576 py)) 0 0)) [0] (by kernel_rfl) (by kernel_rfl) (by kernel_rfl) (by kernel_rfl) (insn_ro ps ps.length (rfl) (by first | omega | decide) (2 * (Sp.lim 1048576 px)) (2 * (Sp.lim 1048576 py)) (by omega) (by omega) (by omega) (by omega)) (.cons (.slice _ _ _ _ _ (by decide)) (.cons (.flatB (by kernel_rfl)) (.cons (.flatB (by kernel_rfl)) .nil))) ⟨rfl, ⟨rfl, rfl, rfl, (.flats (flats_pair _))⟩, trivial⟩ (by kernel_rfl) (by kernel_rfl) (by kernel_rfl) trivial (.flatB (by kernel_rfl))) <|
    .p (does_b false ((show ((Sp.hasF ps (Sp.lim 1048576 px) (Sp.lim 1048576 py) 0 (-1)) != (Sp.insF ps (2 * (Sp.lim 1048576 px)) (2 * (Sp.lim 1048576 py)) 0 0)) = false from (by rw [Sp.insF_hasF]; simp)))) <| .a 1 3 <| .nil _ _) ?_
  refine aw_fl 59 ?_
  refine aw_sk ?_
  refine then_normal ?_
  rcases Bool.eq_false_or_eq_true ((Sp.chkF ps) != 0) with h1 | h1
  · have h1p : (¬ ((Sp.chkF ps) = 0)) := by first | (simpa using h1) | (have h1q := h1; simp at h1q; omega) | (have h1q := bx1 h1; simp at h1q; omega)
    refine aw_p 31 (
      .a 1 3 <|
      .p (does_callB (x := .func 55) (ars := #[.tmp 38]) (ats := #[37]) (g := 55) (vs := [.slice (some ⟨0, 0, none⟩) ps.length 0]) (m := 1) (r := 0) (firsts := #[]) (caps := #[]) (args0 := [.slice (some ⟨0, 0, none⟩) ps.length 0]) (pre0 := [(0, ⟨(ps.flatMap ptc), 24, false, 2⟩)]) (post0 := []) (pre := [(0, ⟨(ps.flatMap ptc), 24, false, 2⟩)]) (post := []) (v0 := .int .i64 (Sp.chkF ps)) (v := .int .i64 (Sp.chkF ps)) [0] (by kernel_rfl) (by kernel_rfl) (by kernel_rfl) (by kernel_rfl) (rgn_ro ps ps.length (rfl) (by first | omega | decide)) (.cons (.slice _ _ _ _ _ (by decide)) .nil) ⟨rfl, ⟨rfl, rfl, rfl, (.flats (flats_pair _))⟩, trivial⟩ (by kernel_rfl) (by kernel_rfl) (by kernel_rfl) trivial (.flatB (by kernel_rfl))) <|
      .p (does_b true (h1)) <| .a 8 3 <| .nil _ _) ?_
    refine aw_rt ?_
    exact en_ret [.bool true] (by kernel_rfl)
  · have h1p : ¬ (¬ ((Sp.chkF ps) = 0)) := by first | (simpa using h1) | (have h1q := h1; simp at h1q; omega) | (have h1q := bx2 h1; simp at h1q; omega)
    obtain ⟨hcl, hd⟩ := Sp.chk_diff (ps := ps) (by simpa using h1)
    obtain ⟨m, hm, hme, hl⟩ := Sp.least_ex (ps := ps) (by omega)
    refine aw_p 31 (
      .a 1 3 <|
      .p (does_callB (x := .func 55) (ars := #[.tmp 38]) (ats := #[37]) (g := 55) (vs := [.slice (some ⟨0, 0, none⟩) ps.length 0]) (m := 1) (r := 0) (firsts := #[]) (caps := #[]) (args0 := [.slice (some ⟨0, 0, none⟩) ps.length 0]) (pre0 := [(0, ⟨(ps.flatMap ptc), 24, false, 2⟩)]) (post0 := []) (pre := [(0, ⟨(ps.flatMap ptc), 24, false, 2⟩)]) (post := []) (v0 := .int .i64 (Sp.chkF ps)) (v := .int .i64 (Sp.chkF ps)) [0] (by kernel_rfl) (by kernel_rfl) (by kernel_rfl) (by kernel_rfl) (rgn_ro ps ps.length (rfl) (by first | omega | decide)) (.cons (.slice _ _ _ _ _ (by decide)) .nil) ⟨rfl, ⟨rfl, rfl, rfl, (.flats (flats_pair _))⟩, trivial⟩ (by kernel_rfl) (by kernel_rfl) (by kernel_rfl) trivial (.flatB (by kernel_rfl))) <|
      .p (does_b false (h1)) <| .a 2 3 <|
      .p (does_callB (x := .func 61) (ars := #[.tmp 42]) (ats := #[37]) (g := 61) (vs := [.slice (some ⟨0, 0, none⟩) ps.length 0]) (m := 1) (r := 1) (firsts := #[]) (caps := #[]) (args0 := [.slice (some ⟨0, 0, none⟩) ps.length 0]) (pre0 := [(0, ⟨(ps.flatMap ptc), 24, false, 2⟩)]) (post0 := [(1, ⟨((Sp.nrmL ps m).flatMap ptc), 24, true, 2⟩)]) (pre := [(0, ⟨(ps.flatMap ptc), 24, false, 2⟩)]) (post := [(3, ⟨((Sp.nrmL ps m).flatMap ptc), 24, true, 2⟩)]) (v0 := .slice (some ⟨1, 0, none⟩) ps.length 0) (v := .slice (some ⟨3, 0, none⟩) ps.length 0) [0, 3] (by kernel_rfl) (by kernel_rfl) (by kernel_rfl) (by kernel_rfl) (norm_ro ps m (by omega) (by omega) hm hd hl) (.cons (.slice _ _ _ _ _ (by decide)) .nil) ⟨rfl, ⟨rfl, rfl, rfl, (.flats (flats_pair _))⟩, trivial⟩ (by kernel_rfl) (by kernel_rfl) (by kernel_rfl) ⟨rfl, ⟨rfl, rfl, rfl, (.flats (flats_pair _))⟩, trivial⟩ (.slice _ _ _ _ _ (by decide))) <|
      .a 1 4 <|
      .p (does_callB (x := .func 62) (ars := #[.tmp 44]) (ats := #[37]) (g := 62) (vs := [.slice (some ⟨0, 0, none⟩) ps.length 0]) (m := 1) (r := 1) (firsts := #[]) (caps := #[]) (args0 := [.slice (some ⟨0, 0, none⟩) ps.length 0]) (pre0 := [(0, ⟨(ps.flatMap ptc), 24, false, 2⟩)]) (post0 := [(1, ⟨((Sp.nrmL ps m).flatMap ptc), 24, true, 2⟩)]) (pre := [(0, ⟨(ps.flatMap ptc), 24, false, 2⟩)]) (post := [(4, ⟨((Sp.nrmL ps m).flatMap ptc), 24, true, 2⟩)]) (v0 := .slice (some ⟨1, 0, none⟩) ps.length 0) (v := .slice (some ⟨4, 0, none⟩) ps.length 0) [0, 4] (by kernel_rfl) (by kernel_rfl) (by kernel_rfl) (by kernel_rfl) (rnorm_ro ps m (by omega) (by omega) hm hd hl) (.cons (.slice _ _ _ _ _ (by decide)) .nil) ⟨rfl, ⟨rfl, rfl, rfl, (.flats (flats_pair _))⟩, trivial⟩ (by kernel_rfl) (by kernel_rfl) (by kernel_rfl) ⟨rfl, ⟨rfl, rfl, rfl, (.flats (flats_pair _))⟩, trivial⟩ (.slice _ _ _ _ _ (by decide))) <|
      .p (does_callB (x := .func 60) (ars := #[.tmp 43, .tmp 45]) (ats := #[37, 37]) (g := 60) (vs := [.slice (some ⟨3, 0, none⟩) ps.length 0, .slice (some ⟨4, 0, none⟩) ps.length 0]) (m := 2) (r := 0) (firsts := #[]) (caps := #[]) (args0 := [.slice (some ⟨0, 0, none⟩) ps.length 0, .slice (some ⟨1, 0, none⟩) ps.length 0]) (pre0 := [(0, ⟨((Sp.nrmL ps m).flatMap ptc), 24, true, 2⟩), (1, ⟨((Sp.nrmL ps m).flatMap ptc), 24, true, 2⟩)]) (post0 := [(0, ⟨((Sp.nrmL ps m).flatMap ptc), 24, true, 2⟩), (1, ⟨((Sp.nrmL ps m).flatMap ptc), 24, true, 2⟩)]) (pre := [(3, ⟨((Sp.nrmL ps m).flatMap ptc), 24, true, 2⟩), (4, ⟨((Sp.nrmL ps m).flatMap ptc), 24, true, 2⟩)]) (post := [(3, ⟨((Sp.nrmL ps m).flatMap ptc), 24, true, 2⟩), (4, ⟨((Sp.nrmL ps m).flatMap ptc), 24, true, 2⟩)]) (v0 := .bool true) (v := .bool true) [3, 4] (by kernel_rfl) (by kernel_rfl) (by kernel_rfl) (by kernel_rfl) (equal_n (Sp.nrmL ps m) (Sp.nrmL ps m) ps.length rfl (Sp.nrm_len hm) (by omega)) (.cons (.slice _ _ _ _ _ (by decide)) (.cons (.slice _ _ _ _ _ (by decide)) .nil)) ⟨rfl, ⟨rfl, rfl, rfl, (.flats (flats_pair _))⟩, rfl, ⟨rfl, rfl, rfl, (.flats (flats_pair _))⟩, trivial⟩ (by kernel_rfl) (by kernel_rfl) (by kernel_rfl) ⟨rfl, ⟨rfl, rfl, rfl, (.flats (flats_pair _))⟩, rfl, ⟨rfl, rfl, rfl, (.flats (flats_pair _))⟩, trivial⟩ (.flatB (by kernel_rfl))) <|
      .a 2 5 <| .nil _ _) ?_
    refine aw_rt ?_
    exact en_ret [.bool true] (by kernel_rfl)


end Go.Proofs.Ytigllakcfdoagaa.Am
