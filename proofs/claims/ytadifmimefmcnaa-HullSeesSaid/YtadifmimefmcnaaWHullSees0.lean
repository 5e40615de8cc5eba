/-
  The walk of the law HullSees without points.
-/
import Derived.Test.YtadifmimefmcnaaProg
import Derived.Test.YtadifmimefmcnaaAm16
import Derived.Test.YtadifmimefmcnaaSd
import Derived.Test.YtadifmimefmcnaaHb1
import Derived.Test.YtadifmimefmcnaaHl
namespace Go.Proofs.Ytadifmimefmcnaa.Am
open Go Go.Proofs
set_option maxRecDepth 100000
set_option maxHeartbeats 4000000
set_option linter.unusedVariables false
set_option linter.unusedSimpArgs false

theorem au_hullSees_1  :
    AC Try.prog 38 1 ([.slice (some ⟨0, 0, none⟩) 0 0]) [(0, ⟨[], 29, false, 2⟩)] (.slice none 0 0) [] := by
  refine ac_in Try.func38 (fun w0 W pin => ?_)
  refine aw_p 3 (
    .a 1 1 <| .nil _ _) ?_
  refine aw_p 7 (
    .a 1 1 <| .nil _ _) ?_
  refine aw_sq 14 15 ?_
  refine aw_p 29 (
    .a 3 1 <| .nil _ _) ?_
  refine aw_bl 0 59 ?_
  refine aw_lp 119 ?_
  refine al_round ?_
  refine aw_p 239 (
    .a 1 1 <| .nil _ _) ?_
  refine aw_sq 478 479 ?_
  refine aw_fl 957 ?_
  refine aw_ex 0 ?_
  refine then_exit ?_
  refine then_exit ?_
  refine block_exit ?_
  refine then_normal ?_
  refine aw_sq 30 31 ?_
  refine aw_p 61 (
    .a 3 1 <| .nil _ _) ?_
  refine aw_tr 122 ?_
  refine aw_p 245 (
    .a 1 1 <| .nil _ _) ?_
  refine aw_rt ?_
  refine then_ret ?_
  exact en_ret [.slice none 0 0] (by kernel_rfl)

theorem hullSees_nil (x y : Int) :
    AC Try.prog 10 1 ([.slice (some ⟨0, 0, none⟩) 0 0, .agg #[.int .i64 x, .int .i64 y]]) [(0, ⟨[], 29, false, 2⟩)] (.bool true) [] := by
  refine ac_in Try.func10 (fun w0 W pin => ?_)
  refine aw_p 3 (
    .a 2 1 <| .nil _ _) ?_
  refine aw_sq 6 7 ?_
  refine aw_p 13 (
    .p (does_c (hullBegun1_ok)) <| .a 1 2 <| .nil _ _) ?_
  refine aw_fl 27 ?_
  refine aw_sk ?_
  refine then_normal ?_
  refine aw_p 15 (
    .a 2 2 <|
    .p (does_callB (x := .func 33) (ars := #[.tmp 13, .tmp 14]) (ats := #[24, 29]) (g := 33) (vs := [.slice (some ⟨0, 0, none⟩) 0 0, .agg #[.int .i64 x, .int .i64 y]]) (m := 1) (r := 0) (firsts := #[]) (caps := #[]) (args0 := [.slice (some ⟨0, 0, none⟩) 0 0, .agg #[.int .i64 x, .int .i64 y]]) (pre0 := [(0, ⟨[], 29, false, 2⟩)]) (post0 := []) (pre := [(0, ⟨[], 29, false, 2⟩)]) (post := []) (v0 := .tuple #[.agg #[.int .i64 0, .int .i64 0], .agg #[.int .i64 0, .int .i64 0], .int .i64 4]) (v := .tuple #[.agg #[.int .i64 0, .int .i64 0], .agg #[.int .i64 0, .int .i64 0], .int .i64 4]) [0] (by kernel_rfl) (by kernel_rfl) (by kernel_rfl) (by kernel_rfl) (hullz_seen x y) (.cons (.slice _ _ _ _ _ (by decide)) (.cons (.flatB (by kernel_rfl)) .nil)) ⟨rfl, ⟨rfl, rfl, rfl, (.flats (by kernel_rfl))⟩, trivial⟩ (by kernel_rfl) (by kernel_rfl) (by kernel_rfl) trivial (.flatB (by kernel_rfl))) <|
    .a 9 2 <| .nil _ _) ?_
  refine aw_p 31 (
    .a 1 4 <| .p (does_k [0] (au_hullSees_1)) <| .a 2 4 <| .nil _ _) ?_
  refine aw_sq 62 63 ?_
  refine aw_bl 0 125 ?_
  refine aw_p 251 (
    .a 4 5 <| .nil _ _) ?_
  refine aw_tr 502 ?_
  refine aw_p 1005 (
    .a 2 5 <| .p (does_e true ((show ((0 == 0) && ((0 == 0) && true)) = true from by decide))) <| .a 3 5 <| .p (does_e true ((show ((0 == 0) && ((0 == 0) && true)) = true from by decide))) <| .a 6 5 <| .nil _ _) ?_
  refine aw_rt ?_
  refine block_ret ?_
  refine then_ret ?_
  exact en_ret [.bool true] (by kernel_rfl)

end Go.Proofs.Ytadifmimefmcnaa.Am
