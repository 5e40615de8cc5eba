/-
  The walks of the points of an area.
-/
import Derived.Test.YtndkhgfecnbmnaaProg
import Derived.Test.YtndkhgfecnbmnaaAm16
import Derived.Test.YtndkhgfecnbmnaaRa3
import Derived.Test.YtndkhgfecnbmnaaAm21
import Derived.Test.YtndkhgfecnbmnaaPt1
namespace Go.Proofs.Ytndkhgfecnbmnaa.Am
open Go Go.Proofs
set_option maxRecDepth 100000
set_option maxHeartbeats 4000000
set_option linter.unusedVariables false
set_option linter.unusedSimpArgs false

theorem grow0_ok (n : Nat) (hn : 1 ≤ n) (hz : n ≤ 4096) :
    AC Try.prog 69 0 ([.slice none 0 0, .int .i64 ((n : Nat) : Int)]) [] (.slice (some ⟨0, 0, none⟩) 0 0) [(0, ⟨[], 28, true, 2⟩)] := by
  refine ac_in Try.func69 (fun w0 W pin => ?_)
  refine aw_p 3 (
    .a 1 0 <| .nil _ _) ?_
  refine aw_sq 6 7 ?_
  refine aw_p 13 (
    .a 1 0 <| .p (does_b false ((show (decide (((n : Nat) : Int) < 0)) = false from decide_eq_false (by omega)))) <| .nil _ _) ?_
  refine aw_fl 27 ?_
  refine aw_sk ?_
  refine then_normal ?_
  refine aw_sq 14 15 ?_
  refine aw_p 29 (
    .a 2 0 <| .p (does_pure (v := .int .i64 0) (by kernel_rfl) (fun w => by kernel_rfl) (by kernel_rfl)) <| .a 3 0 <| .p (does_i ((n : Nat) : Int) ((show (IntKind.wrap .i64 (((n : Nat) : Int) - 0)) = ((n : Nat) : Int) from ((wrap_i64 (by omega) (by omega)).trans (by omega)))) .i64) <| .a 1 0 <| .nil _ _) ?_
  refine aw_p 59 (
    .a 1 0 <| .p (does_b true ((show (decide (((n : Nat) : Int) > 0)) = true from decide_eq_true (by omega)))) <| .nil _ _) ?_
  refine aw_tr 118 ?_
  refine aw_p1 (
    .a 2 0 <| .p (does_pure (v := .int .i64 0) (by kernel_rfl) (fun w => by kernel_rfl) (by kernel_rfl)) <| .p (does_pure (v := .slice none 0 0) (by kernel_rfl) (fun w => by kernel_rfl) (by kernel_rfl)) <| .a 1 0 <|
    .p (does_room 0 28 2 16 n ((n : Nat) : Int) .i64 (by kernel_rfl) (by kernel_rfl) (by omega) (by omega) (by omega) (by omega)) <| .a 2 1 <|
    .p (does_val (v' := .slice (some ⟨0, 0, none⟩) 0 0) (does_slice (t := 30) (x := .tmp 22) (lo := none) (hi := some (.tmp 24)) (k := 0) (off := 0) (n := n) (c := 0) (z := 2) (l := 0) (h := 0) (m := 0) (b := ⟨[], 28, true, 2⟩) (by kernel_rfl) (by kernel_rfl) (by kernel_rfl) (by kernel_rfl) (by kernel_rfl) (by kernel_rfl) (by kernel_rfl) (by kernel_rfl) (by omega) (by omega) (by omega) (by omega)) (by kernel_rfl)) <|
    .a 1 1 <| .nil _ _) ?_
  refine then_normal ?_
  refine aw_p 31 (
    .a 2 1 <| .nil _ _) ?_
  refine aw_rt ?_
  exact en_ret [.slice (some ⟨0, 0, none⟩) 0 0] (by kernel_rfl)

theorem grow_ok (n : Nat) (n' : Int) (hn' : n' = ((n : Nat) : Int)) (hn : 1 ≤ n) (hz : n ≤ 4096) : AC Try.prog 69 0 [.slice none 0 0, .int .i64 n'] [] (.slice (some ⟨0, 0, none⟩) 0 0) [(0, ⟨[], 28, true, 2⟩)] := by
  subst hn'
  exact grow0_ok n hn hz

end Go.Proofs.Ytndkhgfecnbmnaa.Am
