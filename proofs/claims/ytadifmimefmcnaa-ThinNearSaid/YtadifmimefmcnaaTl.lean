/-
  The walk of a point of the stream.
-/
import Derived.Test.YtadifmimefmcnaaProg
import Derived.Test.YtadifmimefmcnaaAm16
import Derived.Test.YtadifmimefmcnaaTn
import Derived.Test.YtadifmimefmcnaaTh4
namespace Go.Proofs.Ytadifmimefmcnaa.Am
open Go Go.Proofs
set_option maxRecDepth 100000
set_option maxHeartbeats 4000000
set_option linter.unusedVariables false
set_option linter.unusedSimpArgs false

theorem pointz_ok (xs : List Int) (p : Nat) :
    AC Try.prog 100 2 ([.pointer (some ⟨0, 0, none⟩)]) [(0, ⟨[.slice (some ⟨1, (min (p) xs.length), none⟩) (xs.length - (p)) 0], 67, true, 1⟩), (1, ⟨(xs.map i64v), 3, false, 1⟩)] (.agg #[.int .i64 (xs.getD p 0 % 81 - 40), .int .i64 (xs.getD (p + 1) 0 % 81 - 40)]) [(0, ⟨[.slice (some ⟨1, (min (p + 2) xs.length), none⟩) (xs.length - (p + 2)) 0], 67, true, 1⟩)] := by
  have q1 := Sp.emod_bd (xs.getD p 0) (n := 81) (by decide); have q2 := Sp.emod_bd (xs.getD (p + 1) 0) (n := 81) (by decide)
  refine ac_in Try.func100 (fun w0 W pin => ?_)
  refine aw_p 3 (
    .a 1 2 <| .nil _ _) ?_
  refine aw_p 7 (
    .a 1 3 <|
    .p (does_callB (x := .func 127) (ars := #[.tmp 3, .const (.int .i64 81)]) (ats := #[65, 3]) (g := 127) (vs := [.pointer (some ⟨0, 0, none⟩), .int .i64 81]) (m := 2) (r := 0) (firsts := #[]) (caps := #[]) (args0 := [.pointer (some ⟨0, 0, none⟩), .int .i64 81]) (pre0 := [(0, ⟨[.slice (some ⟨1, (min (p) xs.length), none⟩) (xs.length - (p)) 0], 67, true, 1⟩), (1, ⟨(xs.map i64v), 3, false, 1⟩)]) (post0 := [(0, ⟨[.slice (some ⟨1, (min (p + 1) xs.length), none⟩) (xs.length - (p + 1)) 0], 67, true, 1⟩)]) (pre := [(0, ⟨[.slice (some ⟨1, (min (p) xs.length), none⟩) (xs.length - (p)) 0], 67, true, 1⟩), (1, ⟨(xs.map i64v), 3, false, 1⟩)]) (post := [(0, ⟨[.slice (some ⟨1, (min (p + 1) xs.length), none⟩) (xs.length - (p + 1)) 0], 67, true, 1⟩)]) (v0 := .int .i64 (xs.getD p 0 % 81)) (v := .int .i64 (xs.getD p 0 % 81)) [0, 1] (by kernel_rfl) (by kernel_rfl) (by kernel_rfl) (by kernel_rfl) (nextz xs p 81 (by decide) (by decide)) (.cons (.ptr _ _ (by decide)) (.cons (.flatB (by kernel_rfl)) .nil)) ⟨rfl, ⟨rfl, rfl, rfl, (.cons (.slice _ _ _ _ _ (by decide)) .nil)⟩, rfl, ⟨rfl, rfl, rfl, (.flats (flats_map (fun _ => rfl) _))⟩, trivial⟩ (by kernel_rfl) (by kernel_rfl) (by kernel_rfl) ⟨rfl, ⟨rfl, rfl, rfl, (.cons (.slice _ _ _ _ _ (by decide)) .nil)⟩, trivial⟩ (.flatB (by kernel_rfl))) <|
    .p (does_i ((xs.getD p 0 % 81) - 40) (wrap_i64 (by omega) (by omega)) .i64) <| .a 1 3 <|
    .p (does_callB (x := .func 127) (ars := #[.tmp 6, .const (.int .i64 81)]) (ats := #[65, 3]) (g := 127) (vs := [.pointer (some ⟨0, 0, none⟩), .int .i64 81]) (m := 2) (r := 0) (firsts := #[]) (caps := #[]) (args0 := [.pointer (some ⟨0, 0, none⟩), .int .i64 81]) (pre0 := [(0, ⟨[.slice (some ⟨1, (min (p + 1) xs.length), none⟩) (xs.length - (p + 1)) 0], 67, true, 1⟩), (1, ⟨(xs.map i64v), 3, false, 1⟩)]) (post0 := [(0, ⟨[.slice (some ⟨1, (min (p + 1 + 1) xs.length), none⟩) (xs.length - (p + 1 + 1)) 0], 67, true, 1⟩)]) (pre := [(0, ⟨[.slice (some ⟨1, (min (p + 1) xs.length), none⟩) (xs.length - (p + 1)) 0], 67, true, 1⟩), (1, ⟨(xs.map i64v), 3, false, 1⟩)]) (post := [(0, ⟨[.slice (some ⟨1, (min (p + 1 + 1) xs.length), none⟩) (xs.length - (p + 1 + 1)) 0], 67, true, 1⟩)]) (v0 := .int .i64 (xs.getD (p + 1) 0 % 81)) (v := .int .i64 (xs.getD (p + 1) 0 % 81)) [0, 1] (by kernel_rfl) (by kernel_rfl) (by kernel_rfl) (by kernel_rfl) (nextz xs (p + 1) 81 (by decide) (by decide)) (.cons (.ptr _ _ (by decide)) (.cons (.flatB (by kernel_rfl)) .nil)) ⟨rfl, ⟨rfl, rfl, rfl, (.cons (.slice _ _ _ _ _ (by decide)) .nil)⟩, rfl, ⟨rfl, rfl, rfl, (.flats (flats_map (fun _ => rfl) _))⟩, trivial⟩ (by kernel_rfl) (by kernel_rfl) (by kernel_rfl) ⟨rfl, ⟨rfl, rfl, rfl, (.cons (.slice _ _ _ _ _ (by decide)) .nil)⟩, trivial⟩ (.flatB (by kernel_rfl))) <|
    .p (does_i ((xs.getD (p + 1) 0 % 81) - 40) (wrap_i64 (by omega) (by omega)) .i64) <| .a 2 3 <| .nil _ _) ?_
  refine aw_rt ?_
  exact en_ret [.agg #[.int .i64 ((xs.getD p 0 % 81) - 40), .int .i64 ((xs.getD (p + 1) 0 % 81) - 40)]] (show (.agg #[.int .i64 ((xs.getD p 0 % 81) - 40), .int .i64 ((xs.getD (p + 1) 0 % 81) - 40)] : Value) = (.agg #[.int .i64 (xs.getD p 0 % 81 - 40), .int .i64 (xs.getD (p + 1) 0 % 81 - 40)]) from (congrArg (fun z : List Value => Value.agg z.toArray) (lcons (congrArg (Value.int .i64) (show ((xs.getD p 0 % 81) - 40) = (xs.getD p 0 % 81 - 40) from by rfl)) (lcons (congrArg (Value.int .i64) (show ((xs.getD (p + 1) 0 % 81) - 40) = (xs.getD (p + 1) 0 % 81 - 40) from by rfl)) rfl))))

theorem pointz0 (xs : List Int) : AC Try.prog 100 2 [.pointer (some ⟨0, 0, none⟩)] [(0, ⟨[.slice (some ⟨1, 0, none⟩) xs.length 0], 67, true, 1⟩), (1, ⟨(xs.map i64v), 3, false, 1⟩)] (.agg #[.int .i64 (xs.getD 0 0 % 81 - 40), .int .i64 (xs.getD 1 0 % 81 - 40)]) [(0, ⟨[.slice (some ⟨1, (min (2) xs.length), none⟩) (xs.length - (2)) 0], 67, true, 1⟩)] := by
  have h := pointz_ok xs 0
  rw [Nat.zero_min, Nat.sub_zero] at h
  exact h

end Go.Proofs.Ytadifmimefmcnaa.Am
