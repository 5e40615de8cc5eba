/-
  The walks of whether a list contains a point.
-/
import Derived.Test.YtadifmimefmcnaaProg
import Derived.Test.YtadifmimefmcnaaAm16
import Derived.Test.YtadifmimefmcnaaCb
namespace Go.Proofs.Ytadifmimefmcnaa.Am
open Go Go.Proofs
set_option maxRecDepth 100000
set_option maxHeartbeats 4000000
set_option linter.unusedVariables false
set_option linter.unusedSimpArgs false

theorem contains_ok (ps : List (Int × Int)) (hn : 1 ≤ ps.length) (hz : ps.length ≤ 8796093021952) (x y : Int) :
    AC Try.prog 21 1 ([.slice (some ⟨0, 0, none⟩) ps.length 0, .agg #[.int .i64 x, .int .i64 y]]) [(0, ⟨(ps.flatMap ptc), 29, true, 2⟩)] (.bool (ps.any (Sp.eqTo (x, y)))) [(0, ⟨(ps.flatMap ptc), 29, true, 2⟩)] := by
  refine ac_in Try.func21 (fun w0 W pin => ?_)
  refine aw_p 3 (
    .a 2 1 <| .nil _ _) ?_
  refine aw_p 7 (
    .a 2 2 <|
    .p (does_callB (x := .func 59) (ars := #[.tmp 5, .tmp 6]) (ats := #[24, 29]) (g := 59) (vs := [.slice (some ⟨0, 0, none⟩) ps.length 0, .agg #[.int .i64 x, .int .i64 y]]) (m := 1) (r := 0) (firsts := #[]) (caps := #[]) (args0 := [.slice (some ⟨0, 0, none⟩) ps.length 0, .agg #[.int .i64 x, .int .i64 y]]) (pre0 := [(0, ⟨(ps.flatMap ptc), 29, true, 2⟩)]) (post0 := [(0, ⟨(ps.flatMap ptc), 29, true, 2⟩)]) (pre := [(0, ⟨(ps.flatMap ptc), 29, true, 2⟩)]) (post := [(0, ⟨(ps.flatMap ptc), 29, true, 2⟩)]) (v0 := .int .i64 (Sp.ixF (Sp.eqTo (x, y)) ps 0)) (v := .int .i64 (Sp.ixF (Sp.eqTo (x, y)) ps 0)) [0] (by kernel_rfl) (by kernel_rfl) (by kernel_rfl) (by kernel_rfl) (index_n ps ps.length (by first | rfl | simp) (by omega) (by omega) x y) (.cons (.slice _ _ _ _ _ (by decide)) (.cons (.flatB (by kernel_rfl)) .nil)) ⟨rfl, ⟨rfl, rfl, rfl, (.flats (flats_pair _))⟩, trivial⟩ (by kernel_rfl) (by kernel_rfl) (by kernel_rfl) ⟨rfl, ⟨rfl, rfl, rfl, (.flats (flats_pair _))⟩, trivial⟩ (.flatB (by kernel_rfl))) <|
    .p (does_b (ps.any (Sp.eqTo (x, y))) (Sp.ixF_any _ _)) <| .a 1 2 <| .nil _ _) ?_
  refine aw_rt ?_
  exact en_ret [.bool (ps.any (Sp.eqTo (x, y)))] (by kernel_rfl)

theorem containsnil_ok (x y : Int) :
    AC Try.prog 21 0 ([.slice none 0 0, .agg #[.int .i64 x, .int .i64 y]]) [] (.bool false) [] := by
  refine ac_in Try.func21 (fun w0 W pin => ?_)
  refine aw_p 3 (
    .a 2 1 <| .nil _ _) ?_
  refine aw_p 7 (
    .a 2 2 <| .p (does_c (indexnil_ok x y)) <| .a 2 2 <| .nil _ _) ?_
  refine aw_rt ?_
  exact en_ret [.bool false] (by kernel_rfl)


end Go.Proofs.Ytadifmimefmcnaa.Am
