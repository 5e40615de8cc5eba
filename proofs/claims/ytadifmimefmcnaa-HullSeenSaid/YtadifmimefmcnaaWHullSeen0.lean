/-
  The walks of the law HullSeen without points, and from inside.
-/
import Derived.Test.YtadifmimefmcnaaProg
import Derived.Test.YtadifmimefmcnaaAm16
import Derived.Test.YtadifmimefmcnaaHg
import Derived.Test.YtadifmimefmcnaaHp
import Derived.Test.YtadifmimefmcnaaHb
import Derived.Test.YtadifmimefmcnaaTe3
namespace Go.Proofs.Ytadifmimefmcnaa.Am
open Go Go.Proofs
set_option maxRecDepth 100000
set_option maxHeartbeats 4000000
set_option linter.unusedVariables false
set_option linter.unusedSimpArgs false

theorem hullSeen_nil (xs : List Int) (hm : AC Try.prog 31 1 [.slice (some ⟨0, 0, none⟩) xs.length 0] [(0, ⟨(xs.map i64v), 3, false, 1⟩)] (.slice none 0 0) []) (x dx dy : Int) (hx : AC Try.prog 32 0 [.int .i64 x] [] (.agg #[.int .i64 dx, .int .i64 dy]) []) (bdx : -40 ≤ dx) (cdx : dx ≤ 40) (bdy : -40 ≤ dy) (cdy : dy ≤ 40) :
    AC Try.prog 7 1 ([.slice (some ⟨0, 0, none⟩) xs.length 0, .int .i64 x]) [(0, ⟨(xs.map i64v), 3, false, 1⟩)] (.bool true) [] := by
  refine ac_in Try.func7 (fun w0 W pin => ?_)
  refine aw_p 3 (
    .a 1 1 <| .nil _ _) ?_
  refine aw_sq 6 7 ?_
  refine aw_p 13 (
    .p (does_c (hullBegun_ok)) <| .a 1 1 <| .nil _ _) ?_
  refine aw_fl 27 ?_
  refine aw_sk ?_
  refine then_normal ?_
  refine aw_p 15 (
    .a 1 1 <|
    .p (does_callB (x := .func 31) (ars := #[.tmp 14]) (ats := #[22]) (g := 31) (vs := [.slice (some ⟨0, 0, none⟩) xs.length 0]) (m := 1) (r := 0) (firsts := #[]) (caps := #[]) (args0 := [.slice (some ⟨0, 0, none⟩) xs.length 0]) (pre0 := [(0, ⟨(xs.map i64v), 3, false, 1⟩)]) (post0 := []) (pre := [(0, ⟨(xs.map i64v), 3, false, 1⟩)]) (post := []) (v0 := .slice none 0 0) (v := .slice none 0 0) [0] (by kernel_rfl) (by kernel_rfl) (by kernel_rfl) (by kernel_rfl) (hm) (.cons (.slice _ _ _ _ _ (by decide)) .nil) ⟨rfl, ⟨rfl, rfl, rfl, (.flats (flats_map (fun _ => rfl) _))⟩, trivial⟩ (by kernel_rfl) (by kernel_rfl) (by kernel_rfl) trivial (.flatB (by kernel_rfl))) <|
    .a 1 1 <| .p (does_c (hx)) <| .a 3 1 <| .nil _ _) ?_
  refine aw_p 31 (
    .a 2 2 <| .p (does_c (hulln_seen dx dy)) <| .a 9 2 <| .nil _ _) ?_
  refine aw_sq 62 63 ?_
  refine aw_p 125 (
    .a 2 4 <| .nil _ _) ?_
  refine aw_tr 250 ?_
  refine aw_p 501 (
    .a 17 4 <| .nil _ _) ?_
  refine aw_rt ?_
  refine then_ret ?_
  exact en_ret [.bool true] (by kernel_rfl)

theorem hullSeen_in (xs : List Int) (ps h : List (Int × Int)) (hl : 1 ≤ ps.length ∧ ps.length ≤ 15) (hf : Sp.Few 40 ps) (hh : Sp.hullF ps = h) (hm : AC Try.prog 31 1 [.slice (some ⟨0, 0, none⟩) xs.length 0] [(0, ⟨(xs.map i64v), 3, false, 1⟩)] (.slice (some ⟨1, 0, none⟩) ps.length 0) [(1, ⟨(ps.flatMap ptc), 29, true, 2⟩)]) (x dx dy : Int) (hx : AC Try.prog 32 0 [.int .i64 x] [] (.agg #[.int .i64 dx, .int .i64 dy]) []) (bdx : -40 ≤ dx) (cdx : dx ≤ 40) (bdy : -40 ≤ dy) (cdy : dy ≤ 40) (hin : Sp.hasH h dx dy = true) :
    AC Try.prog 7 1 ([.slice (some ⟨0, 0, none⟩) xs.length 0, .int .i64 x]) [(0, ⟨(xs.map i64v), 3, false, 1⟩)] (.bool true) [] := by
  have hsub : ∀ q ∈ h, q ∈ ps := (fun q hq => Sp.hull_sub (hh ▸ hq)); have hhl := hh ▸ Sp.hull_len hl.1; have hf4 : Sp.Few 40 h := Sp.few_sub (by decide) hf hsub; have hfh : Sp.Few 1048576 h := (fun i => (by have := hf4 i; omega)); have hlm : ps.map Sp.lmP = ps := Sp.lim_few (by decide) hf
  refine ac_in Try.func7 (fun w0 W pin => ?_)
  refine aw_p 3 (
    .a 1 1 <| .nil _ _) ?_
  refine aw_sq 6 7 ?_
  refine aw_p 13 (
    .p (does_c (hullBegun_ok)) <| .a 1 1 <| .nil _ _) ?_
  refine aw_fl 27 ?_
  refine aw_sk ?_
  refine then_normal ?_
  refine aw_p 15 (
    .a 1 1 <|
    .p (does_callB (x := .func 31) (ars := #[.tmp 14]) (ats := #[22]) (g := 31) (vs := [.slice (some ⟨0, 0, none⟩) xs.length 0]) (m := 1) (r := 1) (firsts := #[]) (caps := #[]) (args0 := [.slice (some ⟨0, 0, none⟩) xs.length 0]) (pre0 := [(0, ⟨(xs.map i64v), 3, false, 1⟩)]) (post0 := [(1, ⟨(ps.flatMap ptc), 29, true, 2⟩)]) (pre := [(0, ⟨(xs.map i64v), 3, false, 1⟩)]) (post := [(1, ⟨(ps.flatMap ptc), 29, true, 2⟩)]) (v0 := .slice (some ⟨1, 0, none⟩) ps.length 0) (v := .slice (some ⟨1, 0, none⟩) ps.length 0) [0, 1] (by kernel_rfl) (by kernel_rfl) (by kernel_rfl) (by kernel_rfl) (hm) (.cons (.slice _ _ _ _ _ (by decide)) .nil) ⟨rfl, ⟨rfl, rfl, rfl, (.flats (flats_map (fun _ => rfl) _))⟩, trivial⟩ (by kernel_rfl) (by kernel_rfl) (by kernel_rfl) ⟨rfl, ⟨rfl, rfl, rfl, (.flats (flats_pair _))⟩, trivial⟩ (.slice _ _ _ _ _ (by decide))) <|
    .a 1 2 <| .p (does_c (hx)) <| .a 3 2 <| .nil _ _) ?_
  refine aw_p 31 (
    .a 2 3 <|
    .p (does_callB (x := .func 33) (ars := #[.tmp 19, .tmp 20]) (ats := #[24, 29]) (g := 33) (vs := [.slice (some ⟨1, 0, none⟩) ps.length 0, .agg #[.int .i64 dx, .int .i64 dy]]) (m := 1) (r := 0) (firsts := #[]) (caps := #[]) (args0 := [.slice (some ⟨0, 0, none⟩) ps.length 0, .agg #[.int .i64 dx, .int .i64 dy]]) (pre0 := [(0, ⟨(ps.flatMap ptc), 29, true, 2⟩)]) (post0 := [(0, ⟨(ps.flatMap ptc), 29, true, 2⟩)]) (pre := [(1, ⟨(ps.flatMap ptc), 29, true, 2⟩)]) (post := [(1, ⟨(ps.flatMap ptc), 29, true, 2⟩)]) (v0 := .tuple #[.agg #[.int .i64 0, .int .i64 0], .agg #[.int .i64 0, .int .i64 0], .int .i64 7]) (v := .tuple #[.agg #[.int .i64 0, .int .i64 0], .agg #[.int .i64 0, .int .i64 0], .int .i64 7]) [1] (by kernel_rfl) (by kernel_rfl) (by kernel_rfl) (by kernel_rfl) ((hullseen_in_own ps h (by rw [hlm]; exact hh) (by omega) (by omega) dx dy ⟨by omega, by omega⟩ hfh (by omega) (by omega) (by omega) (by omega) hin)) (.cons (.slice _ _ _ _ _ (by decide)) (.cons (.flatB (by kernel_rfl)) .nil)) ⟨rfl, ⟨rfl, rfl, rfl, (.flats (flats_pair _))⟩, trivial⟩ (by kernel_rfl) (by kernel_rfl) (by kernel_rfl) ⟨rfl, ⟨rfl, rfl, rfl, (.flats (flats_pair _))⟩, trivial⟩ (.flatB (by kernel_rfl))) <|
    .a 9 3 <| .nil _ _) ?_
  refine aw_sq 62 63 ?_
  refine aw_p 125 (
    .a 2 5 <| .nil _ _) ?_
  refine aw_tr 250 ?_
  refine aw_p 501 (
    .a 13 5 <|
    .p (does_callB (x := .func 34) (ars := #[.tmp 38, .tmp 39]) (ats := #[24, 29]) (g := 34) (vs := [.slice (some ⟨1, 0, none⟩) ps.length 0, .agg #[.int .i64 dx, .int .i64 dy]]) (m := 1) (r := 0) (firsts := #[]) (caps := #[]) (args0 := [.slice (some ⟨0, 0, none⟩) ps.length 0, .agg #[.int .i64 dx, .int .i64 dy]]) (pre0 := [(0, ⟨(ps.flatMap ptc), 29, true, 2⟩)]) (post0 := [(0, ⟨(ps.flatMap ptc), 29, true, 2⟩)]) (pre := [(1, ⟨(ps.flatMap ptc), 29, true, 2⟩)]) (post := [(1, ⟨(ps.flatMap ptc), 29, true, 2⟩)]) (v0 := .bool (Sp.hasH h dx dy)) (v := .bool (Sp.hasH h dx dy)) [1] (by kernel_rfl) (by kernel_rfl) (by kernel_rfl) (by kernel_rfl) ((by have q := hullhas_own ps h (by rw [hlm]; exact hh) (by omega) (by omega) dx dy (by omega) hfh; rw [Sp.lim_id (n := dx) (by omega) (by omega), Sp.lim_id (n := dy) (by omega) (by omega)] at q; exact q)) (.cons (.slice _ _ _ _ _ (by decide)) (.cons (.flatB (by kernel_rfl)) .nil)) ⟨rfl, ⟨rfl, rfl, rfl, (.flats (flats_pair _))⟩, trivial⟩ (by kernel_rfl) (by kernel_rfl) (by kernel_rfl) ⟨rfl, ⟨rfl, rfl, rfl, (.flats (flats_pair _))⟩, trivial⟩ (.flatB (by kernel_rfl))) <|
    .a 3 5 <| .nil _ _) ?_
  refine aw_rt ?_
  refine then_ret ?_
  exact en_ret [.bool (Sp.hasH h dx dy)] (show (.bool (Sp.hasH h dx dy) : Value) = (.bool true) from (congrArg Value.bool (show (Sp.hasH h dx dy) = true from by (first | exact hin | (rw [hin]; rfl)))))


end Go.Proofs.Ytadifmimefmcnaa.Am
