/-
  The walks of the document on the least corner, second part.
-/
import Derived.Test.YtigllakcfdoagaaProg
import Derived.Test.YtigllakcfdoagaaAm16
import Derived.Test.YtigllakcfdoagaaRnd
namespace Go.Proofs.Ytigllakcfdoagaa.Am
open Go Go.Proofs
set_option maxRecDepth 100000
set_option maxHeartbeats 4000000
set_option linter.unusedVariables false
set_option linter.unusedSimpArgs false

theorem nct_ro (ps : List (Int × Int)) (ii : Nat) (hi : ii < ps.length) (hz : ps.length ≤ 4096) :
    AC Try.prog 72 3 ([.slice (some ⟨0, 0, none⟩) ps.length 0, .func (.func 123) #[] #[.pointer (some ⟨1, 0, none⟩), .pointer (some ⟨2, 0, none⟩)]]) [(0, ⟨(ps.flatMap ptc), 24, false, 2⟩), (1, ⟨[.slice (some ⟨0, 0, none⟩) ps.length 0], 37, true, 1⟩), (2, ⟨[.int .i64 ((ii : Nat) : Int)], 3, true, 1⟩)] (.bool (ps.any (fun q => Sp.befP q (ps.getD ii (0, 0))))) [(1, ⟨[.slice (some ⟨0, 0, none⟩) ps.length 0], 37, true, 1⟩), (2, ⟨[.int .i64 ((ii : Nat) : Int)], 3, true, 1⟩)] := by
  refine ac_in Try.func72 (fun w0 W pin => ?_)
  refine aw_p 3 (
    .a 1 3 <| .nil _ _) ?_
  refine aw_p 7 (
    .a 2 3 <|
    .p (does_callB (x := .func 130) (ars := #[.tmp 5, .tmp 6]) (ats := #[37, 91]) (g := 130) (vs := [.slice (some ⟨0, 0, none⟩) ps.length 0, .func (.func 123) #[] #[.pointer (some ⟨1, 0, none⟩), .pointer (some ⟨2, 0, none⟩)]]) (m := 3) (r := 0) (firsts := #[]) (caps := #[]) (args0 := [.slice (some ⟨0, 0, none⟩) ps.length 0, .func (.func 123) #[] #[.pointer (some ⟨1, 0, none⟩), .pointer (some ⟨2, 0, none⟩)]]) (pre0 := [(0, ⟨(ps.flatMap ptc), 24, false, 2⟩), (1, ⟨[.slice (some ⟨0, 0, none⟩) ps.length 0], 37, true, 1⟩), (2, ⟨[.int .i64 ((ii : Nat) : Int)], 3, true, 1⟩)]) (post0 := [(1, ⟨[.slice (some ⟨0, 0, none⟩) ps.length 0], 37, true, 1⟩), (2, ⟨[.int .i64 ((ii : Nat) : Int)], 3, true, 1⟩)]) (pre := [(0, ⟨(ps.flatMap ptc), 24, false, 2⟩), (1, ⟨[.slice (some ⟨0, 0, none⟩) ps.length 0], 37, true, 1⟩), (2, ⟨[.int .i64 ((ii : Nat) : Int)], 3, true, 1⟩)]) (post := [(1, ⟨[.slice (some ⟨0, 0, none⟩) ps.length 0], 37, true, 1⟩), (2, ⟨[.int .i64 ((ii : Nat) : Int)], 3, true, 1⟩)]) (v0 := .int .i64 (Sp.ixF (fun q => Sp.befP q (ps.getD ii (0, 0))) ps 0)) (v := .int .i64 (Sp.ixF (fun q => Sp.befP q (ps.getD ii (0, 0))) ps 0)) [0, 1, 2] (by kernel_rfl) (by kernel_rfl) (by kernel_rfl) (by kernel_rfl) (nix_ro ps ii (by omega) (by omega)) (.cons (.slice _ _ _ _ _ (by decide)) (.cons (.funcL (.flats (by kernel_rfl)) (.cons (.ptr _ _ (by decide)) (.cons (.ptr _ _ (by decide)) .nil))) .nil)) ⟨rfl, ⟨rfl, rfl, rfl, (.flats (flats_pair _))⟩, rfl, ⟨rfl, rfl, rfl, (.cons (.slice _ _ _ _ _ (by decide)) .nil)⟩, rfl, ⟨rfl, rfl, rfl, (.flats (by kernel_rfl))⟩, trivial⟩ (by kernel_rfl) (by kernel_rfl) (by kernel_rfl) ⟨rfl, ⟨rfl, rfl, rfl, (.cons (.slice _ _ _ _ _ (by decide)) .nil)⟩, rfl, ⟨rfl, rfl, rfl, (.flats (by kernel_rfl))⟩, trivial⟩ (.flatB (by kernel_rfl))) <|
    .p (does_b (ps.any (fun q => Sp.befP q (ps.getD ii (0, 0)))) (Sp.ixF_any _ _)) <| .a 1 3 <| .nil _ _) ?_
  refine aw_rt ?_
  exact en_ret [.bool (ps.any (fun q => Sp.befP q (ps.getD ii (0, 0))))] (by kernel_rfl)


end Go.Proofs.Ytigllakcfdoagaa.Am
