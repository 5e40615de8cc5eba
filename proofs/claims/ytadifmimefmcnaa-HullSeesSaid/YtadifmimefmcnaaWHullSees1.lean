/-
  The walk of the law HullSees from inside.
-/
import Derived.Test.YtadifmimefmcnaaProg
import Derived.Test.YtadifmimefmcnaaAm16
import Derived.Test.YtadifmimefmcnaaWHullSees0
import Derived.Test.YtadifmimefmcnaaRj
import Derived.Test.YtadifmimefmcnaaSd
namespace Go.Proofs.Ytadifmimefmcnaa.Am
open Go Go.Proofs
set_option maxRecDepth 100000
set_option maxHeartbeats 4000000
set_option linter.unusedVariables false
set_option linter.unusedSimpArgs false

theorem hullSees_in (ps h : List (Int × Int)) (hh : Sp.hullF (ps.map Sp.lmP) = h) (h1 : 1 ≤ ps.length) (hz : ps.length ≤ 8796093021952) (x0 y0 x y : Int) (hx0 : Sp.lim 1048576 x0 = x) (hy0 : Sp.lim 1048576 y0 = y) (hin : Sp.hasH h x y = true) :
    AC Try.prog 10 1 ([.slice (some ⟨0, 0, none⟩) ps.length 0, .agg #[.int .i64 x0, .int .i64 y0]]) [(0, ⟨(ps.flatMap ptc), 29, false, 2⟩)] (.bool true) [] := by
  have hml : 1 ≤ (ps.map Sp.lmP).length := (by rw [List.length_map]; exact h1); have hhl : 1 ≤ h.length := (hh ▸ (Sp.hull_len hml).1); have h1c := h1; have hhu : h.length ≤ 8796093021952 := (by have q := Sp.hull_few (ps := ps.map Sp.lmP) (pts := ps.map Sp.lmP) (fun q => Iff.rfl) hml; rw [hh, List.length_map] at q; omega); have hfh : Sp.Few 1048576 h := Sp.few_sub (by decide) (Sp.few_lim ps) (fun q hq => Sp.hull_sub (hh ▸ hq)); have qx0 := Sp.lim_bd (m := 1048576) (by decide) x0; have qy0 := Sp.lim_bd (m := 1048576) (by decide) y0; rw [hx0] at qx0; rw [hy0] at qy0
  refine ac_in Try.func10 (fun w0 W pin => ?_)
  refine aw_p 3 (
    .a 2 1 <| .nil _ _) ?_
  refine aw_sq 6 7 ?_
  refine aw_p 13 (
    .p (does_c (hullBegun1_ok)) <| .a 1 2 <| .nil _ _) ?_
  refine aw_fl 27 ?_
  refine aw_sk ?_
  refine then_normal ?_
  refine aw_p 15 (
    .a 2 2 <|
    .p (does_callB (x := .func 33) (ars := #[.tmp 13, .tmp 14]) (ats := #[24, 29]) (g := 33) (vs := [.slice (some ⟨0, 0, none⟩) ps.length 0, .agg #[.int .i64 x0, .int .i64 y0]]) (m := 1) (r := 0) (firsts := #[]) (caps := #[]) (args0 := [.slice (some ⟨0, 0, none⟩) ps.length 0, .agg #[.int .i64 x0, .int .i64 y0]]) (pre0 := [(0, ⟨(ps.flatMap ptc), 29, false, 2⟩)]) (post0 := []) (pre := [(0, ⟨(ps.flatMap ptc), 29, false, 2⟩)]) (post := []) (v0 := .tuple #[.agg #[.int .i64 0, .int .i64 0], .agg #[.int .i64 0, .int .i64 0], .int .i64 7]) (v := .tuple #[.agg #[.int .i64 0, .int .i64 0], .agg #[.int .i64 0, .int .i64 0], .int .i64 7]) [0] (by kernel_rfl) (by kernel_rfl) (by kernel_rfl) (by kernel_rfl) (hullseenl_in ps h hh h1c hz x0 y0 x y hx0 hy0 ⟨hhl, by omega⟩ hfh hin) (.cons (.slice _ _ _ _ _ (by decide)) (.cons (.flatB (by kernel_rfl)) .nil)) ⟨rfl, ⟨rfl, rfl, rfl, (.flats (flats_pair _))⟩, trivial⟩ (by kernel_rfl) (by kernel_rfl) (by kernel_rfl) trivial (.flatB (by kernel_rfl))) <|
    .a 9 2 <| .nil _ _) ?_
  refine aw_p 31 (
    .a 1 4 <|
    .p (does_callB (x := .func 38) (ars := #[.tmp 19]) (ats := #[24]) (g := 38) (vs := [.slice (some ⟨0, 0, none⟩) ps.length 0]) (m := 1) (r := 1) (firsts := #[]) (caps := #[]) (args0 := [.slice (some ⟨0, 0, none⟩) ps.length 0]) (pre0 := [(0, ⟨(ps.flatMap ptc), 29, false, 2⟩)]) (post0 := [(1, ⟨(h.flatMap ptc), 29, true, 2⟩)]) (pre := [(0, ⟨(ps.flatMap ptc), 29, false, 2⟩)]) (post := [(4, ⟨(h.flatMap ptc), 29, true, 2⟩)]) (v0 := .slice (some ⟨1, 0, none⟩) h.length 0) (v := .slice (some ⟨4, 0, none⟩) h.length 0) [0, 4] (by kernel_rfl) (by kernel_rfl) (by kernel_rfl) (by kernel_rfl) (rhull_ro ps h hh h1c hz) (.cons (.slice _ _ _ _ _ (by decide)) .nil) ⟨rfl, ⟨rfl, rfl, rfl, (.flats (flats_pair _))⟩, trivial⟩ (by kernel_rfl) (by kernel_rfl) (by kernel_rfl) ⟨rfl, ⟨rfl, rfl, rfl, (.flats (flats_pair _))⟩, trivial⟩ (.slice _ _ _ _ _ (by decide))) <|
    .a 2 5 <| .nil _ _) ?_
  refine aw_sq 62 63 ?_
  refine aw_bl 0 125 ?_
  refine aw_p 251 (
    .a 2 6 <| .p (does_b false ((show (((h.length : Nat) : Int) == 0) = false from (by rw [beq_eq_false_iff_ne]; omega)))) <| .a 1 6 <| .nil _ _) ?_
  refine aw_fl 503 ?_
  refine aw_p 1007 (
    .a 2 6 <|
    .p (does_callB (x := .func 41) (ars := #[.tmp 38, .tmp 39]) (ats := #[24, 29]) (g := 41) (vs := [.slice (some ⟨4, 0, none⟩) h.length 0, .agg #[.int .i64 x0, .int .i64 y0]]) (m := 1) (r := 0) (firsts := #[]) (caps := #[]) (args0 := [.slice (some ⟨0, 0, none⟩) h.length 0, .agg #[.int .i64 x0, .int .i64 y0]]) (pre0 := [(0, ⟨(h.flatMap ptc), 29, true, 2⟩)]) (post0 := [(0, ⟨(h.flatMap ptc), 29, true, 2⟩)]) (pre := [(4, ⟨(h.flatMap ptc), 29, true, 2⟩)]) (post := [(4, ⟨(h.flatMap ptc), 29, true, 2⟩)]) (v0 := .bool (Sp.hasH h x y)) (v := .bool (Sp.hasH h x y)) [4] (by kernel_rfl) (by kernel_rfl) (by kernel_rfl) (by kernel_rfl) ((by have q := hulledw (ps.map Sp.lmP) h hh ⟨hhl, by omega⟩ hfh x0 y0; rw [hx0, hy0] at q; exact q)) (.cons (.slice _ _ _ _ _ (by decide)) (.cons (.flatB (by kernel_rfl)) .nil)) ⟨rfl, ⟨rfl, rfl, rfl, (.flats (flats_pair _))⟩, trivial⟩ (by kernel_rfl) (by kernel_rfl) (by kernel_rfl) ⟨rfl, ⟨rfl, rfl, rfl, (.flats (flats_pair _))⟩, trivial⟩ (.flatB (by kernel_rfl))) <|
    .a 1 6 <| .nil _ _) ?_
  refine aw_tr 2014 ?_ (Sp.hasH h x y) (hin)
  refine aw_p 4029 (
    .a 2 6 <| .p (does_e true ((show ((0 == 0) && ((0 == 0) && true)) = true from by decide))) <| .a 3 6 <| .p (does_e true ((show ((0 == 0) && ((0 == 0) && true)) = true from by decide))) <| .a 6 6 <| .nil _ _) ?_
  refine aw_rt ?_
  refine block_ret ?_
  refine then_ret ?_
  exact en_ret [.bool true] (by kernel_rfl)


end Go.Proofs.Ytadifmimefmcnaa.Am
