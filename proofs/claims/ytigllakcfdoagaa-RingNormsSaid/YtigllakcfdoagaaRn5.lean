/-
  Rows with a point that is behind another one.
-/
import Derived.Test.YtigllakcfdoagaaProg
import Derived.Test.YtigllakcfdoagaaAm16
import Derived.Test.YtigllakcfdoagaaRn4
namespace Go.Proofs.Ytigllakcfdoagaa.Am
open Go Go.Proofs
set_option maxRecDepth 100000
set_option maxHeartbeats 4000000
set_option linter.unusedVariables false
set_option linter.unusedSimpArgs false

theorem lct_ok (ps qs : List (Int × Int)) (N : Nat) (hP : ps.length = N) (hQ : qs.length = N) (hn : 1 ≤ N) (hz : N ≤ 4096) :
    AC Try.prog 72 3 ([.slice (some ⟨0, 0, none⟩) N 0, .func (.func 70) #[] #[.pointer (some ⟨2, 0, none⟩)]]) [(0, ⟨(ps.flatMap ptc), 24, true, 2⟩), (1, ⟨(qs.flatMap ptc), 24, true, 2⟩), (2, ⟨[.slice (some ⟨1, 0, none⟩) N 0], 37, true, 1⟩)] (.bool (ps.any (Sp.aftP (qs.getD 0 (0, 0))))) [(0, ⟨(ps.flatMap ptc), 24, true, 2⟩), (1, ⟨(qs.flatMap ptc), 24, true, 2⟩), (2, ⟨[.slice (some ⟨1, 0, none⟩) N 0], 37, true, 1⟩)] := by
  refine ac_in Try.func72 (fun w0 W pin => ?_)
  refine aw_p 3 (
    .a 1 3 <| .nil _ _) ?_
  refine aw_p 7 (
    .a 2 3 <|
    .p (does_callB (x := .func 130) (ars := #[.tmp 5, .tmp 6]) (ats := #[37, 91]) (g := 130) (vs := [.slice (some ⟨0, 0, none⟩) N 0, .func (.func 70) #[] #[.pointer (some ⟨2, 0, none⟩)]]) (m := 3) (r := 0) (firsts := #[]) (caps := #[]) (args0 := [.slice (some ⟨0, 0, none⟩) N 0, .func (.func 70) #[] #[.pointer (some ⟨2, 0, none⟩)]]) (pre0 := [(0, ⟨(ps.flatMap ptc), 24, true, 2⟩), (1, ⟨(qs.flatMap ptc), 24, true, 2⟩), (2, ⟨[.slice (some ⟨1, 0, none⟩) N 0], 37, true, 1⟩)]) (post0 := [(0, ⟨(ps.flatMap ptc), 24, true, 2⟩), (1, ⟨(qs.flatMap ptc), 24, true, 2⟩), (2, ⟨[.slice (some ⟨1, 0, none⟩) N 0], 37, true, 1⟩)]) (pre := [(0, ⟨(ps.flatMap ptc), 24, true, 2⟩), (1, ⟨(qs.flatMap ptc), 24, true, 2⟩), (2, ⟨[.slice (some ⟨1, 0, none⟩) N 0], 37, true, 1⟩)]) (post := [(0, ⟨(ps.flatMap ptc), 24, true, 2⟩), (1, ⟨(qs.flatMap ptc), 24, true, 2⟩), (2, ⟨[.slice (some ⟨1, 0, none⟩) N 0], 37, true, 1⟩)]) (v0 := .int .i64 (Sp.ixF (Sp.aftP (qs.getD 0 (0, 0))) ps 0)) (v := .int .i64 (Sp.ixF (Sp.aftP (qs.getD 0 (0, 0))) ps 0)) [0, 1, 2] (by kernel_rfl) (by kernel_rfl) (by kernel_rfl) (by kernel_rfl) (lix_ok ps qs N hP hQ hn hz) (.cons (.slice _ _ _ _ _ (by decide)) (.cons (.funcL (.flats (by kernel_rfl)) (.cons (.ptr _ _ (by decide)) .nil)) .nil)) ⟨rfl, ⟨rfl, rfl, rfl, (.flats (flats_pair _))⟩, rfl, ⟨rfl, rfl, rfl, (.flats (flats_pair _))⟩, rfl, ⟨rfl, rfl, rfl, (.cons (.slice _ _ _ _ _ (by decide)) .nil)⟩, trivial⟩ (by kernel_rfl) (by kernel_rfl) (by kernel_rfl) ⟨rfl, ⟨rfl, rfl, rfl, (.flats (flats_pair _))⟩, rfl, ⟨rfl, rfl, rfl, (.flats (flats_pair _))⟩, rfl, ⟨rfl, rfl, rfl, (.cons (.slice _ _ _ _ _ (by decide)) .nil)⟩, trivial⟩ (.flatB (by kernel_rfl))) <|
    .p (does_b (ps.any (Sp.aftP (qs.getD 0 (0, 0)))) (Sp.ixF_any _ _)) <| .a 1 3 <| .nil _ _) ?_
  refine aw_rt ?_
  exact en_ret [.bool (ps.any (Sp.aftP (qs.getD 0 (0, 0))))] (by kernel_rfl)


end Go.Proofs.Ytigllakcfdoagaa.Am
