/-
  The walk of the law ThinLines.
-/
import Derived.Test.YtadifmimefmcnaaProg
import Derived.Test.YtadifmimefmcnaaAm16
import Derived.Test.YtadifmimefmcnaaWThinLines0
namespace Go.Proofs.Ytadifmimefmcnaa.Am
open Go Go.Proofs
set_option maxRecDepth 100000
set_option maxHeartbeats 4000000
set_option linter.unusedVariables false
set_option linter.unusedSimpArgs false

theorem thinLines_some (ps qs ys : List (Int × Int)) (hq : ps.map Sp.lmP = qs) (h1 : 1 ≤ ps.length) (hz : ps.length ≤ 8796093021952) (tol : Int) (tl : -9223372036854775808 ≤ tol) (tu : tol ≤ 9223372036854775807) (hL : Sp.Lined tol qs ys) :
    AC Try.prog 5 1 ([.slice (some ⟨0, 0, none⟩) ps.length 0, .int .i64 tol]) [(0, ⟨(ps.flatMap ptc), 29, false, 2⟩)] (.bool true) [] := by
  have hyl : ys.length ≤ ps.length := (by have k := Sp.lined_le hL; rw [← hq, List.length_map] at k; exact k)
  refine ac_in Try.func5 (fun w0 W pin => ?_)
  refine aw_p 3 (
    .a 1 1 <| .nil _ _) ?_
  refine aw_p 7 (
    .p (does_c (thinBegun1_ok)) <| .a 3 1 <|
    .p (does_callB (x := .func 16) (ars := #[.tmp 7, .tmp 8]) (ats := #[24, 3]) (g := 16) (vs := [.slice (some ⟨0, 0, none⟩) ps.length 0, .int .i64 tol]) (m := 1) (r := 1) (firsts := #[]) (caps := #[]) (args0 := [.slice (some ⟨0, 0, none⟩) ps.length 0, .int .i64 tol]) (pre0 := [(0, ⟨(ps.flatMap ptc), 29, false, 2⟩)]) (post0 := [(1, ⟨(ys.flatMap ptc), 29, true, 2⟩)]) (pre := [(0, ⟨(ps.flatMap ptc), 29, false, 2⟩)]) (post := [(1, ⟨(ys.flatMap ptc), 29, true, 2⟩)]) (v0 := .slice (some ⟨1, 0, none⟩) ys.length 0) (v := .slice (some ⟨1, 0, none⟩) ys.length 0) [0, 1] (by kernel_rfl) (by kernel_rfl) (by kernel_rfl) (by kernel_rfl) (tline_ro ps qs ys hq hz tol hL) (.cons (.slice _ _ _ _ _ (by decide)) (.cons (.flatB (by kernel_rfl)) .nil)) ⟨rfl, ⟨rfl, rfl, rfl, (.flats (flats_pair _))⟩, trivial⟩ (by kernel_rfl) (by kernel_rfl) (by kernel_rfl) ⟨rfl, ⟨rfl, rfl, rfl, (.flats (flats_pair _))⟩, trivial⟩ (.slice _ _ _ _ _ (by decide))) <|
    .a 2 2 <|
    .p (does_callB (x := .func 28) (ars := #[.tmp 10, .tmp 11]) (ats := #[24, 3]) (g := 28) (vs := [.slice (some ⟨0, 0, none⟩) ps.length 0, .int .i64 tol]) (m := 1) (r := 1) (firsts := #[]) (caps := #[]) (args0 := [.slice (some ⟨0, 0, none⟩) ps.length 0, .int .i64 tol]) (pre0 := [(0, ⟨(ps.flatMap ptc), 29, false, 2⟩)]) (post0 := [(1, ⟨(ys.flatMap ptc), 29, true, 2⟩)]) (pre := [(0, ⟨(ps.flatMap ptc), 29, false, 2⟩)]) (post := [(2, ⟨(ys.flatMap ptc), 29, true, 2⟩)]) (v0 := .slice (some ⟨1, 0, none⟩) ys.length 0) (v := .slice (some ⟨2, 0, none⟩) ys.length 0) [0, 2] (by kernel_rfl) (by kernel_rfl) (by kernel_rfl) (by kernel_rfl) (rlines_ok ps qs ys hq h1 hz tol tl tu hL) (.cons (.slice _ _ _ _ _ (by decide)) (.cons (.flatB (by kernel_rfl)) .nil)) ⟨rfl, ⟨rfl, rfl, rfl, (.flats (flats_pair _))⟩, trivial⟩ (by kernel_rfl) (by kernel_rfl) (by kernel_rfl) ⟨rfl, ⟨rfl, rfl, rfl, (.flats (flats_pair _))⟩, trivial⟩ (.slice _ _ _ _ _ (by decide))) <|
    .p (does_callB (x := .func 17) (ars := #[.tmp 9, .tmp 12]) (ats := #[24, 24]) (g := 17) (vs := [.slice (some ⟨1, 0, none⟩) ys.length 0, .slice (some ⟨2, 0, none⟩) ys.length 0]) (m := 2) (r := 0) (firsts := #[]) (caps := #[]) (args0 := [.slice (some ⟨0, 0, none⟩) ys.length 0, .slice (some ⟨1, 0, none⟩) ys.length 0]) (pre0 := [(0, ⟨(ys.flatMap ptc), 29, true, 2⟩), (1, ⟨(ys.flatMap ptc), 29, true, 2⟩)]) (post0 := [(0, ⟨(ys.flatMap ptc), 29, true, 2⟩), (1, ⟨(ys.flatMap ptc), 29, true, 2⟩)]) (pre := [(1, ⟨(ys.flatMap ptc), 29, true, 2⟩), (2, ⟨(ys.flatMap ptc), 29, true, 2⟩)]) (post := [(1, ⟨(ys.flatMap ptc), 29, true, 2⟩), (2, ⟨(ys.flatMap ptc), 29, true, 2⟩)]) (v0 := .bool true) (v := .bool true) [1, 2] (by kernel_rfl) (by kernel_rfl) (by kernel_rfl) (by kernel_rfl) (equal_big ys (by omega)) (.cons (.slice _ _ _ _ _ (by decide)) (.cons (.slice _ _ _ _ _ (by decide)) .nil)) ⟨rfl, ⟨rfl, rfl, rfl, (.flats (flats_pair _))⟩, rfl, ⟨rfl, rfl, rfl, (.flats (flats_pair _))⟩, trivial⟩ (by kernel_rfl) (by kernel_rfl) (by kernel_rfl) ⟨rfl, ⟨rfl, rfl, rfl, (.flats (flats_pair _))⟩, rfl, ⟨rfl, rfl, rfl, (.flats (flats_pair _))⟩, trivial⟩ (.flatB (by kernel_rfl))) <|
    .a 2 3 <| .nil _ _) ?_
  refine aw_rt ?_
  exact en_ret [.bool true] (by kernel_rfl)


theorem thinLines_ok (ps : List (Int × Int)) (hz : ps.length ≤ 8796093021952) (tol : Int) (tl : -9223372036854775808 ≤ tol) (tu : tol ≤ 9223372036854775807) : AC Try.prog 5 1 [.slice (some ⟨0, 0, none⟩) ps.length 0, .int .i64 tol] [(0, ⟨(ps.flatMap ptc), 29, false, 2⟩)] (.bool true) [] := by
  obtain ⟨ys, hL⟩ := Sp.lined_ex tol (ps.map Sp.lmP)
  rcases Nat.eq_zero_or_pos ps.length with c | c
  · exact thinLines_nil ps _ ys rfl c hz tol tl tu hL
  · exact thinLines_some ps _ ys rfl c hz tol tl tu hL
end Go.Proofs.Ytadifmimefmcnaa.Am
