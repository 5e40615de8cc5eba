/-
  The walks of segments out of numbers.
-/
import Derived.Test.YtigllakcfdoagaaProg
import Derived.Test.YtigllakcfdoagaaAm16
import Derived.Test.YtigllakcfdoagaaAm19
import Derived.Test.YtigllakcfdoagaaCr2
import Derived.Test.YtigllakcfdoagaaPt1
namespace Go.Proofs.Ytigllakcfdoagaa.Am
open Go Go.Proofs
set_option maxRecDepth 100000
set_option maxHeartbeats 4000000
set_option linter.unusedVariables false
set_option linter.unusedSimpArgs false

theorem spointx_ok (xs : List Int) (p : Nat) (hp : p + 2 ≤ xs.length) :
    AC Try.prog 138 2 ([.pointer (some ⟨0, 0, none⟩)]) [(0, ⟨[.slice (some ⟨1, p, none⟩) (xs.length - p) 0], 127, true, 1⟩), (1, ⟨(xs.map i64v), 3, false, 1⟩)] (.agg #[.int .i64 (xs.getD p 0 % 81 - 40), .int .i64 (xs.getD (p + 1) 0 % 81 - 40)]) [(0, ⟨[.slice (some ⟨1, (p + 2), none⟩) (xs.length - (p + 2)) 0], 127, true, 1⟩)] := by
  have q1 := Sp.emod_bd (xs.getD p 0) (n := 81) (by decide); have q2 := Sp.emod_bd (xs.getD (p + 1) 0) (n := 81) (by decide)
  refine ac_in Try.func138 (fun w0 W pin => ?_)
  refine aw_p 3 (
    .a 1 2 <| .nil _ _) ?_
  refine aw_p 7 (
    .a 1 3 <|
    .p (does_callB (x := .func 126) (ars := #[.tmp 3, .const (.int .i64 81)]) (ats := #[125, 3]) (g := 126) (vs := [.pointer (some ⟨0, 0, none⟩), .int .i64 81]) (m := 2) (r := 0) (firsts := #[]) (caps := #[]) (args0 := [.pointer (some ⟨0, 0, none⟩), .int .i64 81]) (pre0 := [(0, ⟨[.slice (some ⟨1, p, none⟩) (xs.length - p) 0], 127, true, 1⟩), (1, ⟨(xs.map i64v), 3, false, 1⟩)]) (post0 := [(0, ⟨[.slice (some ⟨1, (p + 1), none⟩) (xs.length - (p + 1)) 0], 127, true, 1⟩)]) (pre := [(0, ⟨[.slice (some ⟨1, p, none⟩) (xs.length - p) 0], 127, true, 1⟩), (1, ⟨(xs.map i64v), 3, false, 1⟩)]) (post := [(0, ⟨[.slice (some ⟨1, (p + 1), none⟩) (xs.length - (p + 1)) 0], 127, true, 1⟩)]) (v0 := .int .i64 (xs.getD p 0 % 81)) (v := .int .i64 (xs.getD p 0 % 81)) [0, 1] (by kernel_rfl) (by kernel_rfl) (by kernel_rfl) (by kernel_rfl) (next_ro xs p 81 (by omega) (by decide) (by decide)) (.cons (.ptr _ _ (by decide)) (.cons (.flatB (by kernel_rfl)) .nil)) ⟨rfl, ⟨rfl, rfl, rfl, (.cons (.slice _ _ _ _ _ (by decide)) .nil)⟩, rfl, ⟨rfl, rfl, rfl, (.flats (flats_map (fun _ => rfl) _))⟩, trivial⟩ (by kernel_rfl) (by kernel_rfl) (by kernel_rfl) ⟨rfl, ⟨rfl, rfl, rfl, (.cons (.slice _ _ _ _ _ (by decide)) .nil)⟩, trivial⟩ (.flatB (by kernel_rfl))) <|
    .p (does_i ((xs.getD p 0 % 81) - 40) (wrap_i64 (by omega) (by omega)) .i64) <| .a 1 3 <|
    .p (does_callB (x := .func 126) (ars := #[.tmp 6, .const (.int .i64 81)]) (ats := #[125, 3]) (g := 126) (vs := [.pointer (some ⟨0, 0, none⟩), .int .i64 81]) (m := 2) (r := 0) (firsts := #[]) (caps := #[]) (args0 := [.pointer (some ⟨0, 0, none⟩), .int .i64 81]) (pre0 := [(0, ⟨[.slice (some ⟨1, (p + 1), none⟩) (xs.length - (p + 1)) 0], 127, true, 1⟩), (1, ⟨(xs.map i64v), 3, false, 1⟩)]) (post0 := [(0, ⟨[.slice (some ⟨1, (p + 1 + 1), none⟩) (xs.length - (p + 1 + 1)) 0], 127, true, 1⟩)]) (pre := [(0, ⟨[.slice (some ⟨1, (p + 1), none⟩) (xs.length - (p + 1)) 0], 127, true, 1⟩), (1, ⟨(xs.map i64v), 3, false, 1⟩)]) (post := [(0, ⟨[.slice (some ⟨1, (p + 1 + 1), none⟩) (xs.length - (p + 1 + 1)) 0], 127, true, 1⟩)]) (v0 := .int .i64 (xs.getD (p + 1) 0 % 81)) (v := .int .i64 (xs.getD (p + 1) 0 % 81)) [0, 1] (by kernel_rfl) (by kernel_rfl) (by kernel_rfl) (by kernel_rfl) (next_ro xs (p + 1) 81 (by omega) (by decide) (by decide)) (.cons (.ptr _ _ (by decide)) (.cons (.flatB (by kernel_rfl)) .nil)) ⟨rfl, ⟨rfl, rfl, rfl, (.cons (.slice _ _ _ _ _ (by decide)) .nil)⟩, rfl, ⟨rfl, rfl, rfl, (.flats (flats_map (fun _ => rfl) _))⟩, trivial⟩ (by kernel_rfl) (by kernel_rfl) (by kernel_rfl) ⟨rfl, ⟨rfl, rfl, rfl, (.cons (.slice _ _ _ _ _ (by decide)) .nil)⟩, trivial⟩ (.flatB (by kernel_rfl))) <|
    .p (does_i ((xs.getD (p + 1) 0 % 81) - 40) (wrap_i64 (by omega) (by omega)) .i64) <| .a 2 3 <| .nil _ _) ?_
  refine aw_rt ?_
  exact en_ret [.agg #[.int .i64 ((xs.getD p 0 % 81) - 40), .int .i64 ((xs.getD (p + 1) 0 % 81) - 40)]] (show (.agg #[.int .i64 ((xs.getD p 0 % 81) - 40), .int .i64 ((xs.getD (p + 1) 0 % 81) - 40)] : Value) = (.agg #[.int .i64 (xs.getD p 0 % 81 - 40), .int .i64 (xs.getD (p + 1) 0 % 81 - 40)]) from (congrArg (fun z : List Value => Value.agg z.toArray) (lcons (congrArg (Value.int .i64) (show ((xs.getD p 0 % 81) - 40) = (xs.getD p 0 % 81 - 40) from by rfl)) (lcons (congrArg (Value.int .i64) (show ((xs.getD (p + 1) 0 % 81) - 40) = (xs.getD (p + 1) 0 % 81 - 40) from by rfl)) rfl))))

theorem line2_eq (xs : List Int) (p : Nat) (hp : p + 4 ≤ xs.length) (h : (((xs.getD (p + 2) 0 % 81 - 40) == (xs.getD (p + 0) 0 % 81 - 40)) && (((xs.getD (p + 3) 0 % 81 - 40) == (xs.getD (p + 1) 0 % 81 - 40)) && true)) = true) :
    AC Try.prog 134 2 ([.pointer (some ⟨0, 0, none⟩), .int .i64 2]) [(0, ⟨[.slice (some ⟨1, p, none⟩) (xs.length - p) 0], 127, true, 1⟩), (1, ⟨(xs.map i64v), 3, false, 1⟩)] (.slice (some ⟨2, 0, none⟩) 2 0) [(0, ⟨[.slice (some ⟨1, (p + 4), none⟩) (xs.length - (p + 4)) 0], 127, true, 1⟩), (2, ⟨[.int .i64 (xs.getD (p + 0) 0 % 81 - 40), .int .i64 (xs.getD (p + 1) 0 % 81 - 40), .int .i64 ((xs.getD (p + 2) 0 % 81 - 40) + 1), .int .i64 (xs.getD (p + 3) 0 % 81 - 40)], 24, true, 2⟩)] := by
  have q2 := Sp.emod_bd (xs.getD (p + 2) 0) (n := 81) (by decide)
  refine ac_in Try.func134 (fun w0 W pin => ?_)
  refine aw_p 3 (
    .a 1 3 <| .nil _ _) ?_
  refine aw_p 7 (
    .a 1 3 <|
    .p (does_callB (x := .func 138) (ars := #[.tmp 8]) (ats := #[125]) (g := 138) (vs := [.pointer (some ⟨0, 0, none⟩)]) (m := 2) (r := 0) (firsts := #[]) (caps := #[]) (args0 := [.pointer (some ⟨0, 0, none⟩)]) (pre0 := [(0, ⟨[.slice (some ⟨1, p, none⟩) (xs.length - p) 0], 127, true, 1⟩), (1, ⟨(xs.map i64v), 3, false, 1⟩)]) (post0 := [(0, ⟨[.slice (some ⟨1, (p + 2), none⟩) (xs.length - (p + 2)) 0], 127, true, 1⟩)]) (pre := [(0, ⟨[.slice (some ⟨1, p, none⟩) (xs.length - p) 0], 127, true, 1⟩), (1, ⟨(xs.map i64v), 3, false, 1⟩)]) (post := [(0, ⟨[.slice (some ⟨1, (p + 2), none⟩) (xs.length - (p + 2)) 0], 127, true, 1⟩)]) (v0 := .agg #[.int .i64 (xs.getD p 0 % 81 - 40), .int .i64 (xs.getD (p + 1) 0 % 81 - 40)]) (v := .agg #[.int .i64 (xs.getD p 0 % 81 - 40), .int .i64 (xs.getD (p + 1) 0 % 81 - 40)]) [0, 1] (by kernel_rfl) (by kernel_rfl) (by kernel_rfl) (by kernel_rfl) (spointx_ok xs p (by omega)) (.cons (.ptr _ _ (by decide)) .nil) ⟨rfl, ⟨rfl, rfl, rfl, (.cons (.slice _ _ _ _ _ (by decide)) .nil)⟩, rfl, ⟨rfl, rfl, rfl, (.flats (flats_map (fun _ => rfl) _))⟩, trivial⟩ (by kernel_rfl) (by kernel_rfl) (by kernel_rfl) ⟨rfl, ⟨rfl, rfl, rfl, (.cons (.slice _ _ _ _ _ (by decide)) .nil)⟩, trivial⟩ (.flatB (by kernel_rfl))) <|
    .a 2 3 <| .nil _ _) ?_
  refine aw_sq 14 15 ?_
  refine aw_bl 0 29 ?_
  refine aw_lp 59 ?_
  refine al_round ?_
  refine aw_sq 118 119 ?_
  refine aw_p 237 (
    .a 4 4 <| .nil _ _) ?_
  refine aw_tr 474 ?_
  refine aw_sk ?_
  refine then_normal ?_
  refine aw_bl 1 239 ?_
  refine aw_d 479 (
    .a 1 4 <|
    .p (does_callB (x := .func 138) (ars := #[.tmp 15]) (ats := #[125]) (g := 138) (vs := [.pointer (some ⟨0, 0, none⟩)]) (m := 2) (r := 0) (firsts := #[]) (caps := #[]) (args0 := [.pointer (some ⟨0, 0, none⟩)]) (pre0 := [(0, ⟨[.slice (some ⟨1, (p + 2), none⟩) (xs.length - (p + 2)) 0], 127, true, 1⟩), (1, ⟨(xs.map i64v), 3, false, 1⟩)]) (post0 := [(0, ⟨[.slice (some ⟨1, (p + 2 + 2), none⟩) (xs.length - (p + 2 + 2)) 0], 127, true, 1⟩)]) (pre := [(0, ⟨[.slice (some ⟨1, (p + 2), none⟩) (xs.length - (p + 2)) 0], 127, true, 1⟩), (1, ⟨(xs.map i64v), 3, false, 1⟩)]) (post := [(0, ⟨[.slice (some ⟨1, (p + 2 + 2), none⟩) (xs.length - (p + 2 + 2)) 0], 127, true, 1⟩)]) (v0 := .agg #[.int .i64 (xs.getD (p + 2) 0 % 81 - 40), .int .i64 (xs.getD (p + 2 + 1) 0 % 81 - 40)]) (v := .agg #[.int .i64 (xs.getD (p + 2) 0 % 81 - 40), .int .i64 (xs.getD (p + 2 + 1) 0 % 81 - 40)]) [0, 1] (by kernel_rfl) (by kernel_rfl) (by kernel_rfl) (by kernel_rfl) (spointx_ok xs (p + 2) (by omega)) (.cons (.ptr _ _ (by decide)) .nil) ⟨rfl, ⟨rfl, rfl, rfl, (.cons (.slice _ _ _ _ _ (by decide)) .nil)⟩, rfl, ⟨rfl, rfl, rfl, (.flats (flats_map (fun _ => rfl) _))⟩, trivial⟩ (by kernel_rfl) (by kernel_rfl) (by kernel_rfl) ⟨rfl, ⟨rfl, rfl, rfl, (.cons (.slice _ _ _ _ _ (by decide)) .nil)⟩, trivial⟩ (.flatB (by kernel_rfl))) <|
    .a 10 4 <| .nil _ _) ?_
  refine aw_sq 958 959 ?_
  refine aw_p 1917 (
    .a 2 6 <| .p (does_e true (h)) <| .nil _ _) ?_
  refine aw_tr 3834 ?_
  refine aw_p1 (
    .a 2 6 <| .p (does_i ((xs.getD (p + 2) 0 % 81 - 40) + 1) (wrap_i64 (by omega) (by omega)) .i64) <| .a 2 6 <| .nil _ _) ?_
  refine then_normal ?_
  refine aw_p1 (
    .a 3 6 <| .p (does_ap 2) <| .a 1 7 <| .nil _ _) ?_
  refine block_normal ?_
  refine then_normal ?_
  refine al_round ?_
  refine aw_sq 118 119 ?_
  refine aw_p 237 (
    .a 4 7 <| .nil _ _) ?_
  refine aw_fl 475 ?_
  refine aw_ex 0 ?_
  refine then_exit ?_
  refine then_exit ?_
  refine block_exit ?_
  refine then_normal ?_
  refine aw_p 31 (
    .a 2 7 <| .nil _ _) ?_
  refine aw_rt ?_
  exact en_ret [.slice (some ⟨2, 0, none⟩) 2 0] (by kernel_rfl)

theorem line2_ne (xs : List Int) (p : Nat) (hp : p + 4 ≤ xs.length) (h : (((xs.getD (p + 2) 0 % 81 - 40) == (xs.getD (p + 0) 0 % 81 - 40)) && (((xs.getD (p + 3) 0 % 81 - 40) == (xs.getD (p + 1) 0 % 81 - 40)) && true)) = false) :
    AC Try.prog 134 2 ([.pointer (some ⟨0, 0, none⟩), .int .i64 2]) [(0, ⟨[.slice (some ⟨1, p, none⟩) (xs.length - p) 0], 127, true, 1⟩), (1, ⟨(xs.map i64v), 3, false, 1⟩)] (.slice (some ⟨2, 0, none⟩) 2 0) [(0, ⟨[.slice (some ⟨1, (p + 4), none⟩) (xs.length - (p + 4)) 0], 127, true, 1⟩), (2, ⟨[.int .i64 (xs.getD (p + 0) 0 % 81 - 40), .int .i64 (xs.getD (p + 1) 0 % 81 - 40), .int .i64 (xs.getD (p + 2) 0 % 81 - 40), .int .i64 (xs.getD (p + 3) 0 % 81 - 40)], 24, true, 2⟩)] := by
  have q2 := Sp.emod_bd (xs.getD (p + 2) 0) (n := 81) (by decide)
  refine ac_in Try.func134 (fun w0 W pin => ?_)
  refine aw_p 3 (
    .a 1 3 <| .nil _ _) ?_
  refine aw_p 7 (
    .a 1 3 <|
    .p (does_callB (x := .func 138) (ars := #[.tmp 8]) (ats := #[125]) (g := 138) (vs := [.pointer (some ⟨0, 0, none⟩)]) (m := 2) (r := 0) (firsts := #[]) (caps := #[]) (args0 := [.pointer (some ⟨0, 0, none⟩)]) (pre0 := [(0, ⟨[.slice (some ⟨1, p, none⟩) (xs.length - p) 0], 127, true, 1⟩), (1, ⟨(xs.map i64v), 3, false, 1⟩)]) (post0 := [(0, ⟨[.slice (some ⟨1, (p + 2), none⟩) (xs.length - (p + 2)) 0], 127, true, 1⟩)]) (pre := [(0, ⟨[.slice (some ⟨1, p, none⟩) (xs.length - p) 0], 127, true, 1⟩), (1, ⟨(xs.map i64v), 3, false, 1⟩)]) (post := [(0, ⟨[.slice (some ⟨1, (p + 2), none⟩) (xs.length - (p + 2)) 0], 127, true, 1⟩)]) (v0 := .agg #[.int .i64 (xs.getD p 0 % 81 - 40), .int .i64 (xs.getD (p + 1) 0 % 81 - 40)]) (v := .agg #[.int .i64 (xs.getD p 0 % 81 - 40), .int .i64 (xs.getD (p + 1) 0 % 81 - 40)]) [0, 1] (by kernel_rfl) (by kernel_rfl) (by kernel_rfl) (by kernel_rfl) (spointx_ok xs p (by omega)) (.cons (.ptr _ _ (by decide)) .nil) ⟨rfl, ⟨rfl, rfl, rfl, (.cons (.slice _ _ _ _ _ (by decide)) .nil)⟩, rfl, ⟨rfl, rfl, rfl, (.flats (flats_map (fun _ => rfl) _))⟩, trivial⟩ (by kernel_rfl) (by kernel_rfl) (by kernel_rfl) ⟨rfl, ⟨rfl, rfl, rfl, (.cons (.slice _ _ _ _ _ (by decide)) .nil)⟩, trivial⟩ (.flatB (by kernel_rfl))) <|
    .a 2 3 <| .nil _ _) ?_
  refine aw_sq 14 15 ?_
  refine aw_bl 0 29 ?_
  refine aw_lp 59 ?_
  refine al_round ?_
  refine aw_sq 118 119 ?_
  refine aw_p 237 (
    .a 4 4 <| .nil _ _) ?_
  refine aw_tr 474 ?_
  refine aw_sk ?_
  refine then_normal ?_
  refine aw_bl 1 239 ?_
  refine aw_d 479 (
    .a 1 4 <|
    .p (does_callB (x := .func 138) (ars := #[.tmp 15]) (ats := #[125]) (g := 138) (vs := [.pointer (some ⟨0, 0, none⟩)]) (m := 2) (r := 0) (firsts := #[]) (caps := #[]) (args0 := [.pointer (some ⟨0, 0, none⟩)]) (pre0 := [(0, ⟨[.slice (some ⟨1, (p + 2), none⟩) (xs.length - (p + 2)) 0], 127, true, 1⟩), (1, ⟨(xs.map i64v), 3, false, 1⟩)]) (post0 := [(0, ⟨[.slice (some ⟨1, (p + 2 + 2), none⟩) (xs.length - (p + 2 + 2)) 0], 127, true, 1⟩)]) (pre := [(0, ⟨[.slice (some ⟨1, (p + 2), none⟩) (xs.length - (p + 2)) 0], 127, true, 1⟩), (1, ⟨(xs.map i64v), 3, false, 1⟩)]) (post := [(0, ⟨[.slice (some ⟨1, (p + 2 + 2), none⟩) (xs.length - (p + 2 + 2)) 0], 127, true, 1⟩)]) (v0 := .agg #[.int .i64 (xs.getD (p + 2) 0 % 81 - 40), .int .i64 (xs.getD (p + 2 + 1) 0 % 81 - 40)]) (v := .agg #[.int .i64 (xs.getD (p + 2) 0 % 81 - 40), .int .i64 (xs.getD (p + 2 + 1) 0 % 81 - 40)]) [0, 1] (by kernel_rfl) (by kernel_rfl) (by kernel_rfl) (by kernel_rfl) (spointx_ok xs (p + 2) (by omega)) (.cons (.ptr _ _ (by decide)) .nil) ⟨rfl, ⟨rfl, rfl, rfl, (.cons (.slice _ _ _ _ _ (by decide)) .nil)⟩, rfl, ⟨rfl, rfl, rfl, (.flats (flats_map (fun _ => rfl) _))⟩, trivial⟩ (by kernel_rfl) (by kernel_rfl) (by kernel_rfl) ⟨rfl, ⟨rfl, rfl, rfl, (.cons (.slice _ _ _ _ _ (by decide)) .nil)⟩, trivial⟩ (.flatB (by kernel_rfl))) <|
    .a 10 4 <| .nil _ _) ?_
  refine aw_sq 958 959 ?_
  refine aw_p 1917 (
    .a 2 6 <| .p (does_e false (h)) <| .nil _ _) ?_
  refine aw_fl 3835 ?_
  refine aw_sk ?_
  refine then_normal ?_
  refine aw_p1 (
    .a 3 6 <| .p (does_ap 2) <| .a 1 7 <| .nil _ _) ?_
  refine block_normal ?_
  refine then_normal ?_
  refine al_round ?_
  refine aw_sq 118 119 ?_
  refine aw_p 237 (
    .a 4 7 <| .nil _ _) ?_
  refine aw_fl 475 ?_
  refine aw_ex 0 ?_
  refine then_exit ?_
  refine then_exit ?_
  refine block_exit ?_
  refine then_normal ?_
  refine aw_p 31 (
    .a 2 7 <| .nil _ _) ?_
  refine aw_rt ?_
  exact en_ret [.slice (some ⟨2, 0, none⟩) 2 0] (by kernel_rfl)

theorem segs_nil (xs : List Int) (n : Nat) (hn : min (xs.length / 4) 12 = n) (h0 : n = 0) (hz : xs.length ≤ 9223372036854775807) :
    AC Try.prog 74 1 ([.slice (some ⟨0, 0, none⟩) xs.length 0]) [(0, ⟨(xs.map i64v), 3, false, 1⟩)] (.slice none 0 0) [] := by
  have e1 : Int.tdiv ((xs.length : Nat) : Int) 4 = ((xs.length / 4 : Nat) : Int) := by rw [Int.tdiv_eq_ediv_of_nonneg (by omega)]; omega
  have hb : Sp.mn (Int.tdiv ((xs.length : Nat) : Int) 4) 12 = ((n : Nat) : Int) := by rw [e1, ← hn]; unfold Sp.mn; split <;> omega
  have hl : 4 * n ≤ xs.length ∧ n ≤ 12 := by omega
  refine ac_in Try.func74 (fun w0 W pin => ?_)
  refine aw_p 3 (
    .a 1 2 <| .nil _ _) ?_
  refine aw_p 7 (
    .a 4 2 <| .nil _ _) ?_
  refine aw_p 15 (
    .a 1 3 <| .nil _ _) ?_
  refine aw_sq 30 31 ?_
  refine aw_p 61 (
    .a 2 3 <| .p (does_i (Int.tdiv ((xs.length : Nat) : Int) 4) (wrap_i64 (by rw [e1]; omega) (by rw [e1]; omega)) .i64) <| .p (does_i ((n : Nat) : Int) (hb) .i64) <| .a 1 3 <| .nil _ _) ?_
  refine aw_bl 0 123 ?_
  refine aw_lp 247 ?_
  refine al_round ?_
  refine aw_p 495 (
    .p (does_b false ((show (decide (0 < ((n : Nat) : Int))) = false from decide_eq_false (by omega)))) <| .nil _ _) ?_
  refine aw_sq 990 991 ?_
  refine aw_fl 1981 ?_
  refine aw_ex 0 ?_
  refine then_exit ?_
  refine then_exit ?_
  refine block_exit ?_
  refine then_normal ?_
  refine aw_p 63 (
    .a 2 3 <| .nil _ _) ?_
  refine aw_rt ?_
  exact en_ret [.slice none 0 0] (by kernel_rfl)

theorem segs_some (xs : List Int) (n : Nat) (hn : min (xs.length / 4) 12 = n) (h0 : 0 < n) (hz : xs.length ≤ 9223372036854775807) :
    AC Try.prog 74 1 ([.slice (some ⟨0, 0, none⟩) xs.length 0]) [(0, ⟨(xs.map i64v), 3, false, 1⟩)] (.slice (some ⟨1, 0, none⟩) n 0) [(1, ⟨((List.range n).flatMap (Sp.sgc xs)), 96, true, 4⟩)] := by
  have e1 : Int.tdiv ((xs.length : Nat) : Int) 4 = ((xs.length / 4 : Nat) : Int) := by rw [Int.tdiv_eq_ediv_of_nonneg (by omega)]; omega
  have hb : Sp.mn (Int.tdiv ((xs.length : Nat) : Int) 4) 12 = ((n : Nat) : Int) := by rw [e1, ← hn]; unfold Sp.mn; split <;> omega
  have hl : 4 * n ≤ xs.length ∧ n ≤ 12 := by omega
  refine ac_in Try.func74 (fun w0 W pin => ?_)
  refine aw_p 3 (
    .a 1 2 <| .nil _ _) ?_
  refine aw_p 7 (
    .a 4 2 <| .nil _ _) ?_
  refine aw_p 15 (
    .a 1 3 <| .nil _ _) ?_
  refine aw_sq 30 31 ?_
  refine aw_p 61 (
    .a 2 3 <| .p (does_i (Int.tdiv ((xs.length : Nat) : Int) 4) (wrap_i64 (by rw [e1]; omega) (by rw [e1]; omega)) .i64) <| .p (does_i ((n : Nat) : Int) (hb) .i64) <| .a 1 3 <| .nil _ _) ?_
  refine aw_bl 0 123 ?_
  refine aw_lp 247 ?_
  refine al_round ?_
  refine aw_p 495 (
    .p (does_b true ((show (decide (0 < ((n : Nat) : Int))) = true from decide_eq_true (by omega)))) <| .nil _ _) ?_
  refine aw_sq 990 991 ?_
  refine aw_tr 1980 ?_
  refine aw_sk ?_
  refine then_normal ?_
  refine aw_sq 1982 1983 ?_
  refine aw_bl 1 3965 ?_
  rcases Bool.eq_false_or_eq_true ((((xs.getD 2 0 % 81 - 40) == (xs.getD 0 0 % 81 - 40)) && (((xs.getD 3 0 % 81 - 40) == (xs.getD 1 0 % 81 - 40)) && true))) with h1 | h1
  · refine aw_p 7931 (
      .a 1 3 <|
      .p (does_callB (x := .func 134) (ars := #[.tmp 15, .const (.int .i64 2)]) (ats := #[125, 3]) (g := 134) (vs := [.pointer (some ⟨2, 0, none⟩), .int .i64 2]) (m := 2) (r := 1) (firsts := #[]) (caps := #[]) (args0 := [.pointer (some ⟨0, 0, none⟩), .int .i64 2]) (pre0 := [(0, ⟨[.slice (some ⟨1, 0, none⟩) (xs.length - 0) 0], 127, true, 1⟩), (1, ⟨(xs.map i64v), 3, false, 1⟩)]) (post0 := [(0, ⟨[.slice (some ⟨1, 4, none⟩) (xs.length - 4) 0], 127, true, 1⟩), (2, ⟨[.int .i64 (xs.getD 0 0 % 81 - 40), .int .i64 (xs.getD 1 0 % 81 - 40), .int .i64 ((xs.getD 2 0 % 81 - 40) + 1), .int .i64 (xs.getD 3 0 % 81 - 40)], 24, true, 2⟩)]) (pre := [(2, ⟨[.slice (some ⟨0, 0, none⟩) xs.length 0], 127, true, 1⟩), (0, ⟨(xs.map i64v), 3, false, 1⟩)]) (post := [(2, ⟨[.slice (some ⟨0, 4, none⟩) (xs.length - 4) 0], 127, true, 1⟩), (3, ⟨[.int .i64 (xs.getD 0 0 % 81 - 40), .int .i64 (xs.getD 1 0 % 81 - 40), .int .i64 ((xs.getD 2 0 % 81 - 40) + 1), .int .i64 (xs.getD 3 0 % 81 - 40)], 24, true, 2⟩)]) (v0 := .slice (some ⟨2, 0, none⟩) 2 0) (v := .slice (some ⟨3, 0, none⟩) 2 0) [2, 0, 3] (by kernel_rfl) (by kernel_rfl) (by kernel_rfl) (by kernel_rfl) (line2_eq xs 0 (by omega) h1) (.cons (.ptr _ _ (by decide)) (.cons (.flatB (by kernel_rfl)) .nil)) ⟨rfl, ⟨rfl, rfl, rfl, (.cons (.slice _ _ _ _ _ (by decide)) .nil)⟩, rfl, ⟨rfl, rfl, rfl, (.flats (flats_map (fun _ => rfl) _))⟩, trivial⟩ (by kernel_rfl) (by kernel_rfl) (by kernel_rfl) ⟨rfl, ⟨rfl, rfl, rfl, (.cons (.slice _ _ _ _ _ (by decide)) .nil)⟩, rfl, ⟨rfl, rfl, rfl, (.flats (by kernel_rfl))⟩, trivial⟩ (.slice _ _ _ _ _ (by decide))) <|
      .a 1 4 <| .nil _ _) ?_
    refine aw_d1 (
      .a 9 4 <| .p (does_ap 1) <| .a 1 5 <| .nil _ _) ?_
    refine block_normal ?_
    refine then_normal ?_
    have hone : (List.range 1).flatMap (Sp.sgc xs) = [.int .i64 (xs.getD 0 0 % 81 - 40), .int .i64 (xs.getD 1 0 % 81 - 40), .int .i64 ((xs.getD 2 0 % 81 - 40) + 1), .int .i64 (xs.getD 3 0 % 81 - 40)] := (List.append_nil _).trans (Sp.sgc_t (xs := xs) (i := 0) h1)
    refine aw_w [(0, .slice (some ⟨0, 0, none⟩) xs.length 0), (2, .slice none 0 0), (3, .pointer (some ⟨2, 0, none⟩)), (4, .slice (some ⟨1, 0, none⟩) 1 0), (12, .int .i64 ((n : Nat) : Int)), (13, .int .i64 0)] [(0, ⟨(xs.map i64v), 3, false, 1⟩), (1, ⟨((List.range 1).flatMap (Sp.sgc xs)), 96, true, 4⟩), (2, ⟨[.slice (some ⟨0, 4, none⟩) (xs.length - 4) 0], 127, true, 1⟩)] ?_ (by kernel_rfl) (by rw [hone]; kernel_rfl) (hc := (by simp [closedB, valsB, valB, List.all_eq_true, List.mem_flatMap, List.mem_range, List.mem_map, i64v, Sp.sgc, flat1]; try (intros; simp [valsB, valB, flat1]); try decide))
    refine aw_p1 (
      .a 2 5 <| .nil _ _) ?_
    refine then_normal ?_
    refine al_w [(0, .slice (some ⟨0, 0, none⟩) xs.length 0), (2, .slice none 0 0), (3, .pointer (some ⟨2, 0, none⟩)), (4, .slice (some ⟨1, 0, none⟩) 1 0), (12, .int .i64 ((n : Nat) : Int)), (13, .int .i64 ((1 : Nat) : Int))] [(0, ⟨(xs.map i64v), 3, false, 1⟩), (1, ⟨((List.range 1).flatMap (Sp.sgc xs)), 96, true, 4⟩), (2, ⟨[.slice (some ⟨0, (4 * 1), none⟩) (xs.length - 4 * 1) 0], 127, true, 1⟩)] ?_ (hc := (by simp [closedB, valsB, valB, List.all_eq_true, List.mem_flatMap, List.mem_range, List.mem_map, i64v, Sp.sgc, flat1]; try (intros; simp [valsB, valB, flat1]); try decide))
    refine al_ind (fun i : Nat => (fun (i : Nat) => mkSt 1 [(0, .slice (some ⟨0, 0, none⟩) xs.length 0), (2, .slice none 0 0), (3, .pointer (some ⟨2, 0, none⟩)), (4, .slice (some ⟨1, 0, none⟩) i 0), (12, .int .i64 ((n : Nat) : Int)), (13, .int .i64 ((i : Nat) : Int))] [(0, ⟨(xs.map i64v), 3, false, 1⟩), (1, ⟨((List.range i).flatMap (Sp.sgc xs)), 96, true, 4⟩), (2, ⟨[.slice (some ⟨0, (4 * i), none⟩) (xs.length - 4 * i) 0], 127, true, 1⟩)]) i) (fun i : Nat => (fun (i : Nat) => (1 ≤ i ∧ i ≤ n)) i) (fun i : Nat => (fun (i : Nat) => n - i) i) (fun i hi1 ih1 => ?_) 1 (show (1 ≤ 1 ∧ 1 ≤ n) from by omega)
    obtain ⟨i, hv1⟩ : ∃ z, z = i := ⟨i, rfl⟩; subst hv1
    have hi1' : (1 ≤ i ∧ i ≤ n) := hi1
    have hi : 1 ≤ i ∧ i ≤ n := hi1'
    show AL _ _ _ (mkSt 1 [(0, .slice (some ⟨0, 0, none⟩) xs.length 0), (2, .slice none 0 0), (3, .pointer (some ⟨2, 0, none⟩)), (4, .slice (some ⟨1, 0, none⟩) i 0), (12, .int .i64 ((n : Nat) : Int)), (13, .int .i64 ((i : Nat) : Int))] [(0, ⟨(xs.map i64v), 3, false, 1⟩), (1, ⟨((List.range i).flatMap (Sp.sgc xs)), 96, true, 4⟩), (2, ⟨[.slice (some ⟨0, (4 * i), none⟩) (xs.length - 4 * i) 0], 127, true, 1⟩)]) _
    refine al_round ?_
    refine aw_p 495 (
      .a 1 5 <| .nil _ _) ?_
    refine aw_sq 990 991 ?_
    refine aw_cd 1980 1981 (decide (((i : Nat) : Int) < ((n : Nat) : Int))) (fun h2 => ?_) (fun h2 => ?_)
    · have h2p : ((((i : Nat) : Int) < ((n : Nat) : Int))) := by first | (simpa using h2) | (have h2q := h2; simp at h2q; omega) | (have h2q := bx1 h2; simp at h2q; omega)
      refine aw_sk ?_
      refine then_normal ?_
      refine aw_sq 1982 1983 ?_
      refine aw_bl 1 3965 ?_
      rcases Bool.eq_false_or_eq_true ((((xs.getD (4 * i + 2) 0 % 81 - 40) == (xs.getD (4 * i + 0) 0 % 81 - 40)) && (((xs.getD (4 * i + 3) 0 % 81 - 40) == (xs.getD (4 * i + 1) 0 % 81 - 40)) && true))) with h3 | h3
      · refine aw_p 7931 (
          .a 1 5 <|
          .p (does_callB (x := .func 134) (ars := #[.tmp 15, .const (.int .i64 2)]) (ats := #[125, 3]) (g := 134) (vs := [.pointer (some ⟨2, 0, none⟩), .int .i64 2]) (m := 2) (r := 1) (firsts := #[]) (caps := #[]) (args0 := [.pointer (some ⟨0, 0, none⟩), .int .i64 2]) (pre0 := [(0, ⟨[.slice (some ⟨1, (4 * i), none⟩) (xs.length - (4 * i)) 0], 127, true, 1⟩), (1, ⟨(xs.map i64v), 3, false, 1⟩)]) (post0 := [(0, ⟨[.slice (some ⟨1, (4 * i + 4), none⟩) (xs.length - (4 * i + 4)) 0], 127, true, 1⟩), (2, ⟨[.int .i64 (xs.getD (4 * i + 0) 0 % 81 - 40), .int .i64 (xs.getD (4 * i + 1) 0 % 81 - 40), .int .i64 ((xs.getD (4 * i + 2) 0 % 81 - 40) + 1), .int .i64 (xs.getD (4 * i + 3) 0 % 81 - 40)], 24, true, 2⟩)]) (pre := [(2, ⟨[.slice (some ⟨0, (4 * i), none⟩) (xs.length - 4 * i) 0], 127, true, 1⟩), (0, ⟨(xs.map i64v), 3, false, 1⟩)]) (post := [(2, ⟨[.slice (some ⟨0, (4 * i + 4), none⟩) (xs.length - (4 * i + 4)) 0], 127, true, 1⟩), (5, ⟨[.int .i64 (xs.getD (4 * i + 0) 0 % 81 - 40), .int .i64 (xs.getD (4 * i + 1) 0 % 81 - 40), .int .i64 ((xs.getD (4 * i + 2) 0 % 81 - 40) + 1), .int .i64 (xs.getD (4 * i + 3) 0 % 81 - 40)], 24, true, 2⟩)]) (v0 := .slice (some ⟨2, 0, none⟩) 2 0) (v := .slice (some ⟨5, 0, none⟩) 2 0) [2, 0, 5] (by kernel_rfl) (by kernel_rfl) (by kernel_rfl) (by kernel_rfl) (line2_eq xs (4 * i) (by omega) h3) (.cons (.ptr _ _ (by decide)) (.cons (.flatB (by kernel_rfl)) .nil)) ⟨rfl, ⟨rfl, rfl, rfl, (.cons (.slice _ _ _ _ _ (by decide)) .nil)⟩, rfl, ⟨rfl, rfl, rfl, (.flats (flats_map (fun _ => rfl) _))⟩, trivial⟩ (by kernel_rfl) (by kernel_rfl) (by kernel_rfl) ⟨rfl, ⟨rfl, rfl, rfl, (.cons (.slice _ _ _ _ _ (by decide)) .nil)⟩, rfl, ⟨rfl, rfl, rfl, (.flats (by kernel_rfl))⟩, trivial⟩ (.slice _ _ _ _ _ (by decide))) <|
          .a 1 6 <| .nil _ _) ?_
        refine aw_d1 (
          .a 9 6 <|
          .p (does_apy 7 96 4 32 1 i 6 1 ⟨((List.range i).flatMap (Sp.sgc xs)), 96, true, 4⟩ ⟨[.int .i64 (xs.getD (4 * i + 0) 0 % 81 - 40), .int .i64 (xs.getD (4 * i + 1) 0 % 81 - 40), .int .i64 ((xs.getD (4 * i + 2) 0 % 81 - 40) + 1), .int .i64 (xs.getD (4 * i + 3) 0 % 81 - 40)], 96, true, 4⟩ ((List.range (i + 1)).flatMap (Sp.sgc xs)) (by kernel_rfl) (by kernel_rfl) (by kernel_rfl) (by kernel_rfl) (by kernel_rfl) (range_len (f := (Sp.sgc xs)) (z := 4) (fun _ => rfl) _) (by omega) (by omega) (range_snoc (Sp.sgc_t h3))) <|
          .a 1 8 <| .nil _ _) ?_
        refine block_normal ?_
        refine then_normal ?_
        refine aw_p1 (
          .p (does_i (((i : Nat) : Int) + 1) (wrap_i64 (by omega) (by omega)) .i64) <| .a 1 8 <| .nil _ _) ?_
        refine then_normal ?_
        refine al_r [(1, 7)] [(0, .slice (some ⟨0, 0, none⟩) xs.length 0), (2, .slice none 0 0), (3, .pointer (some ⟨2, 0, none⟩)), (4, .slice (some ⟨7, 0, none⟩) (i + 1) 0), (12, .int .i64 ((n : Nat) : Int)), (13, .int .i64 (((i + 1) : Nat) : Int))] [(0, ⟨(xs.map i64v), 3, false, 1⟩), (7, ⟨((List.range (i + 1)).flatMap (Sp.sgc xs)), 96, true, 4⟩), (2, ⟨[.slice (some ⟨0, (4 * (i + 1)), none⟩) (xs.length - 4 * (i + 1)) 0], 127, true, 1⟩)] [(0, .slice (some ⟨0, 0, none⟩) xs.length 0), (2, .slice none 0 0), (3, .pointer (some ⟨2, 0, none⟩)), (4, .slice (some ⟨1, 0, none⟩) (i + 1) 0), (12, .int .i64 ((n : Nat) : Int)), (13, .int .i64 (((i + 1) : Nat) : Int))] [(0, ⟨(xs.map i64v), 3, false, 1⟩), (1, ⟨((List.range (i + 1)).flatMap (Sp.sgc xs)), 96, true, 4⟩), (2, ⟨[.slice (some ⟨0, (4 * (i + 1)), none⟩) (xs.length - 4 * (i + 1)) 0], 127, true, 1⟩)] ?_ ⟨rfl, (.slice _ _ _ _ _ rfl), rfl, (.flatB (by kernel_rfl)), rfl, (.ptr _ _ rfl), rfl, (.slice _ _ _ _ _ rfl), rfl, (.flatB (by kernel_rfl)), rfl, (.flatB (by kernel_rfl)), trivial⟩ ⟨rfl, ⟨rfl, rfl, rfl, (.flats (flats_map (fun _ => rfl) _))⟩, rfl, ⟨rfl, rfl, rfl, (.flats (range_flats (fun _ => rfl) _))⟩, rfl, ⟨rfl, rfl, rfl, (.cons (.slice _ _ _ _ _ rfl) .nil)⟩, trivial⟩
        exact ih1 (i + 1) (show (1 ≤ (i + 1) ∧ (i + 1) ≤ n) from by omega) (show n - (i + 1) < n - i from by omega)
      · refine aw_p 7931 (
          .a 1 5 <|
          .p (does_callB (x := .func 134) (ars := #[.tmp 15, .const (.int .i64 2)]) (ats := #[125, 3]) (g := 134) (vs := [.pointer (some ⟨2, 0, none⟩), .int .i64 2]) (m := 2) (r := 1) (firsts := #[]) (caps := #[]) (args0 := [.pointer (some ⟨0, 0, none⟩), .int .i64 2]) (pre0 := [(0, ⟨[.slice (some ⟨1, (4 * i), none⟩) (xs.length - (4 * i)) 0], 127, true, 1⟩), (1, ⟨(xs.map i64v), 3, false, 1⟩)]) (post0 := [(0, ⟨[.slice (some ⟨1, (4 * i + 4), none⟩) (xs.length - (4 * i + 4)) 0], 127, true, 1⟩), (2, ⟨[.int .i64 (xs.getD (4 * i + 0) 0 % 81 - 40), .int .i64 (xs.getD (4 * i + 1) 0 % 81 - 40), .int .i64 (xs.getD (4 * i + 2) 0 % 81 - 40), .int .i64 (xs.getD (4 * i + 3) 0 % 81 - 40)], 24, true, 2⟩)]) (pre := [(2, ⟨[.slice (some ⟨0, (4 * i), none⟩) (xs.length - 4 * i) 0], 127, true, 1⟩), (0, ⟨(xs.map i64v), 3, false, 1⟩)]) (post := [(2, ⟨[.slice (some ⟨0, (4 * i + 4), none⟩) (xs.length - (4 * i + 4)) 0], 127, true, 1⟩), (5, ⟨[.int .i64 (xs.getD (4 * i + 0) 0 % 81 - 40), .int .i64 (xs.getD (4 * i + 1) 0 % 81 - 40), .int .i64 (xs.getD (4 * i + 2) 0 % 81 - 40), .int .i64 (xs.getD (4 * i + 3) 0 % 81 - 40)], 24, true, 2⟩)]) (v0 := .slice (some ⟨2, 0, none⟩) 2 0) (v := .slice (some ⟨5, 0, none⟩) 2 0) [2, 0, 5] (by kernel_rfl) (by kernel_rfl) (by kernel_rfl) (by kernel_rfl) (line2_ne xs (4 * i) (by omega) h3) (.cons (.ptr _ _ (by decide)) (.cons (.flatB (by kernel_rfl)) .nil)) ⟨rfl, ⟨rfl, rfl, rfl, (.cons (.slice _ _ _ _ _ (by decide)) .nil)⟩, rfl, ⟨rfl, rfl, rfl, (.flats (flats_map (fun _ => rfl) _))⟩, trivial⟩ (by kernel_rfl) (by kernel_rfl) (by kernel_rfl) ⟨rfl, ⟨rfl, rfl, rfl, (.cons (.slice _ _ _ _ _ (by decide)) .nil)⟩, rfl, ⟨rfl, rfl, rfl, (.flats (by kernel_rfl))⟩, trivial⟩ (.slice _ _ _ _ _ (by decide))) <|
          .a 1 6 <| .nil _ _) ?_
        refine aw_d1 (
          .a 9 6 <|
          .p (does_apy 7 96 4 32 1 i 6 1 ⟨((List.range i).flatMap (Sp.sgc xs)), 96, true, 4⟩ ⟨[.int .i64 (xs.getD (4 * i + 0) 0 % 81 - 40), .int .i64 (xs.getD (4 * i + 1) 0 % 81 - 40), .int .i64 (xs.getD (4 * i + 2) 0 % 81 - 40), .int .i64 (xs.getD (4 * i + 3) 0 % 81 - 40)], 96, true, 4⟩ ((List.range (i + 1)).flatMap (Sp.sgc xs)) (by kernel_rfl) (by kernel_rfl) (by kernel_rfl) (by kernel_rfl) (by kernel_rfl) (range_len (f := (Sp.sgc xs)) (z := 4) (fun _ => rfl) _) (by omega) (by omega) (range_snoc (Sp.sgc_f h3))) <|
          .a 1 8 <| .nil _ _) ?_
        refine block_normal ?_
        refine then_normal ?_
        refine aw_p1 (
          .p (does_i (((i : Nat) : Int) + 1) (wrap_i64 (by omega) (by omega)) .i64) <| .a 1 8 <| .nil _ _) ?_
        refine then_normal ?_
        refine al_r [(1, 7)] [(0, .slice (some ⟨0, 0, none⟩) xs.length 0), (2, .slice none 0 0), (3, .pointer (some ⟨2, 0, none⟩)), (4, .slice (some ⟨7, 0, none⟩) (i + 1) 0), (12, .int .i64 ((n : Nat) : Int)), (13, .int .i64 (((i + 1) : Nat) : Int))] [(0, ⟨(xs.map i64v), 3, false, 1⟩), (7, ⟨((List.range (i + 1)).flatMap (Sp.sgc xs)), 96, true, 4⟩), (2, ⟨[.slice (some ⟨0, (4 * (i + 1)), none⟩) (xs.length - 4 * (i + 1)) 0], 127, true, 1⟩)] [(0, .slice (some ⟨0, 0, none⟩) xs.length 0), (2, .slice none 0 0), (3, .pointer (some ⟨2, 0, none⟩)), (4, .slice (some ⟨1, 0, none⟩) (i + 1) 0), (12, .int .i64 ((n : Nat) : Int)), (13, .int .i64 (((i + 1) : Nat) : Int))] [(0, ⟨(xs.map i64v), 3, false, 1⟩), (1, ⟨((List.range (i + 1)).flatMap (Sp.sgc xs)), 96, true, 4⟩), (2, ⟨[.slice (some ⟨0, (4 * (i + 1)), none⟩) (xs.length - 4 * (i + 1)) 0], 127, true, 1⟩)] ?_ ⟨rfl, (.slice _ _ _ _ _ rfl), rfl, (.flatB (by kernel_rfl)), rfl, (.ptr _ _ rfl), rfl, (.slice _ _ _ _ _ rfl), rfl, (.flatB (by kernel_rfl)), rfl, (.flatB (by kernel_rfl)), trivial⟩ ⟨rfl, ⟨rfl, rfl, rfl, (.flats (flats_map (fun _ => rfl) _))⟩, rfl, ⟨rfl, rfl, rfl, (.flats (range_flats (fun _ => rfl) _))⟩, rfl, ⟨rfl, rfl, rfl, (.cons (.slice _ _ _ _ _ rfl) .nil)⟩, trivial⟩
        exact ih1 (i + 1) (show (1 ≤ (i + 1) ∧ (i + 1) ≤ n) from by omega) (show n - (i + 1) < n - i from by omega)
    · have h2p : ¬ ((((i : Nat) : Int) < ((n : Nat) : Int))) := by first | (simpa using h2) | (have h2q := h2; simp at h2q; omega) | (have h2q := bx2 h2; simp at h2q; omega)
      have hin : i = n := by omega
      refine aw_ex 0 ?_
      refine then_exit ?_
      refine then_exit ?_
      refine block_exit ?_
      refine then_normal ?_
      refine aw_w [(0, .slice (some ⟨0, 0, none⟩) xs.length 0), (2, .slice none 0 0), (3, .pointer (some ⟨2, 0, none⟩)), (4, .slice (some ⟨1, 0, none⟩) n 0), (12, .int .i64 ((n : Nat) : Int)), (13, .int .i64 ((n : Nat) : Int)), (14, .bool (decide (((n : Nat) : Int) < ((n : Nat) : Int))))] [(0, ⟨(xs.map i64v), 3, false, 1⟩), (1, ⟨((List.range n).flatMap (Sp.sgc xs)), 96, true, 4⟩), (2, ⟨[.slice (some ⟨0, (4 * n), none⟩) (xs.length - 4 * n) 0], 127, true, 1⟩)] ?_ (by subst hin; kernel_rfl) (by subst hin; kernel_rfl) (hc := (by simp [closedB, valsB, valB, List.all_eq_true, List.mem_flatMap, List.mem_range, List.mem_map, i64v, Sp.sgc, flat1]; try (intros; simp [valsB, valB, flat1]); try decide))
      refine aw_p 63 (
        .a 2 5 <| .nil _ _) ?_
      refine aw_rt ?_
      exact en_ret [.slice (some ⟨1, 0, none⟩) n 0] (by kernel_rfl)
  · refine aw_p 7931 (
      .a 1 3 <|
      .p (does_callB (x := .func 134) (ars := #[.tmp 15, .const (.int .i64 2)]) (ats := #[125, 3]) (g := 134) (vs := [.pointer (some ⟨2, 0, none⟩), .int .i64 2]) (m := 2) (r := 1) (firsts := #[]) (caps := #[]) (args0 := [.pointer (some ⟨0, 0, none⟩), .int .i64 2]) (pre0 := [(0, ⟨[.slice (some ⟨1, 0, none⟩) (xs.length - 0) 0], 127, true, 1⟩), (1, ⟨(xs.map i64v), 3, false, 1⟩)]) (post0 := [(0, ⟨[.slice (some ⟨1, 4, none⟩) (xs.length - 4) 0], 127, true, 1⟩), (2, ⟨[.int .i64 (xs.getD 0 0 % 81 - 40), .int .i64 (xs.getD 1 0 % 81 - 40), .int .i64 (xs.getD 2 0 % 81 - 40), .int .i64 (xs.getD 3 0 % 81 - 40)], 24, true, 2⟩)]) (pre := [(2, ⟨[.slice (some ⟨0, 0, none⟩) xs.length 0], 127, true, 1⟩), (0, ⟨(xs.map i64v), 3, false, 1⟩)]) (post := [(2, ⟨[.slice (some ⟨0, 4, none⟩) (xs.length - 4) 0], 127, true, 1⟩), (3, ⟨[.int .i64 (xs.getD 0 0 % 81 - 40), .int .i64 (xs.getD 1 0 % 81 - 40), .int .i64 (xs.getD 2 0 % 81 - 40), .int .i64 (xs.getD 3 0 % 81 - 40)], 24, true, 2⟩)]) (v0 := .slice (some ⟨2, 0, none⟩) 2 0) (v := .slice (some ⟨3, 0, none⟩) 2 0) [2, 0, 3] (by kernel_rfl) (by kernel_rfl) (by kernel_rfl) (by kernel_rfl) (line2_ne xs 0 (by omega) h1) (.cons (.ptr _ _ (by decide)) (.cons (.flatB (by kernel_rfl)) .nil)) ⟨rfl, ⟨rfl, rfl, rfl, (.cons (.slice _ _ _ _ _ (by decide)) .nil)⟩, rfl, ⟨rfl, rfl, rfl, (.flats (flats_map (fun _ => rfl) _))⟩, trivial⟩ (by kernel_rfl) (by kernel_rfl) (by kernel_rfl) ⟨rfl, ⟨rfl, rfl, rfl, (.cons (.slice _ _ _ _ _ (by decide)) .nil)⟩, rfl, ⟨rfl, rfl, rfl, (.flats (by kernel_rfl))⟩, trivial⟩ (.slice _ _ _ _ _ (by decide))) <|
      .a 1 4 <| .nil _ _) ?_
    refine aw_d1 (
      .a 9 4 <| .p (does_ap 1) <| .a 1 5 <| .nil _ _) ?_
    refine block_normal ?_
    refine then_normal ?_
    have hone : (List.range 1).flatMap (Sp.sgc xs) = [.int .i64 (xs.getD 0 0 % 81 - 40), .int .i64 (xs.getD 1 0 % 81 - 40), .int .i64 (xs.getD 2 0 % 81 - 40), .int .i64 (xs.getD 3 0 % 81 - 40)] := (List.append_nil _).trans (Sp.sgc_f (xs := xs) (i := 0) h1)
    refine aw_w [(0, .slice (some ⟨0, 0, none⟩) xs.length 0), (2, .slice none 0 0), (3, .pointer (some ⟨2, 0, none⟩)), (4, .slice (some ⟨1, 0, none⟩) 1 0), (12, .int .i64 ((n : Nat) : Int)), (13, .int .i64 0)] [(0, ⟨(xs.map i64v), 3, false, 1⟩), (1, ⟨((List.range 1).flatMap (Sp.sgc xs)), 96, true, 4⟩), (2, ⟨[.slice (some ⟨0, 4, none⟩) (xs.length - 4) 0], 127, true, 1⟩)] ?_ (by kernel_rfl) (by rw [hone]; kernel_rfl) (hc := (by simp [closedB, valsB, valB, List.all_eq_true, List.mem_flatMap, List.mem_range, List.mem_map, i64v, Sp.sgc, flat1]; try (intros; simp [valsB, valB, flat1]); try decide))
    refine aw_p1 (
      .a 2 5 <| .nil _ _) ?_
    refine then_normal ?_
    refine al_w [(0, .slice (some ⟨0, 0, none⟩) xs.length 0), (2, .slice none 0 0), (3, .pointer (some ⟨2, 0, none⟩)), (4, .slice (some ⟨1, 0, none⟩) 1 0), (12, .int .i64 ((n : Nat) : Int)), (13, .int .i64 ((1 : Nat) : Int))] [(0, ⟨(xs.map i64v), 3, false, 1⟩), (1, ⟨((List.range 1).flatMap (Sp.sgc xs)), 96, true, 4⟩), (2, ⟨[.slice (some ⟨0, (4 * 1), none⟩) (xs.length - 4 * 1) 0], 127, true, 1⟩)] ?_ (hc := (by simp [closedB, valsB, valB, List.all_eq_true, List.mem_flatMap, List.mem_range, List.mem_map, i64v, Sp.sgc, flat1]; try (intros; simp [valsB, valB, flat1]); try decide))
    refine al_ind (fun i : Nat => (fun (i : Nat) => mkSt 1 [(0, .slice (some ⟨0, 0, none⟩) xs.length 0), (2, .slice none 0 0), (3, .pointer (some ⟨2, 0, none⟩)), (4, .slice (some ⟨1, 0, none⟩) i 0), (12, .int .i64 ((n : Nat) : Int)), (13, .int .i64 ((i : Nat) : Int))] [(0, ⟨(xs.map i64v), 3, false, 1⟩), (1, ⟨((List.range i).flatMap (Sp.sgc xs)), 96, true, 4⟩), (2, ⟨[.slice (some ⟨0, (4 * i), none⟩) (xs.length - 4 * i) 0], 127, true, 1⟩)]) i) (fun i : Nat => (fun (i : Nat) => (1 ≤ i ∧ i ≤ n)) i) (fun i : Nat => (fun (i : Nat) => n - i) i) (fun i hi2 ih2 => ?_) 1 (show (1 ≤ 1 ∧ 1 ≤ n) from by omega)
    obtain ⟨i, hv2⟩ : ∃ z, z = i := ⟨i, rfl⟩; subst hv2
    have hi2' : (1 ≤ i ∧ i ≤ n) := hi2
    have hi : 1 ≤ i ∧ i ≤ n := hi2'
    show AL _ _ _ (mkSt 1 [(0, .slice (some ⟨0, 0, none⟩) xs.length 0), (2, .slice none 0 0), (3, .pointer (some ⟨2, 0, none⟩)), (4, .slice (some ⟨1, 0, none⟩) i 0), (12, .int .i64 ((n : Nat) : Int)), (13, .int .i64 ((i : Nat) : Int))] [(0, ⟨(xs.map i64v), 3, false, 1⟩), (1, ⟨((List.range i).flatMap (Sp.sgc xs)), 96, true, 4⟩), (2, ⟨[.slice (some ⟨0, (4 * i), none⟩) (xs.length - 4 * i) 0], 127, true, 1⟩)]) _
    refine al_round ?_
    refine aw_p 495 (
      .a 1 5 <| .nil _ _) ?_
    refine aw_sq 990 991 ?_
    refine aw_cd 1980 1981 (decide (((i : Nat) : Int) < ((n : Nat) : Int))) (fun h4 => ?_) (fun h4 => ?_)
    · have h4p : ((((i : Nat) : Int) < ((n : Nat) : Int))) := by first | (simpa using h4) | (have h4q := h4; simp at h4q; omega) | (have h4q := bx1 h4; simp at h4q; omega)
      refine aw_sk ?_
      refine then_normal ?_
      refine aw_sq 1982 1983 ?_
      refine aw_bl 1 3965 ?_
      rcases Bool.eq_false_or_eq_true ((((xs.getD (4 * i + 2) 0 % 81 - 40) == (xs.getD (4 * i + 0) 0 % 81 - 40)) && (((xs.getD (4 * i + 3) 0 % 81 - 40) == (xs.getD (4 * i + 1) 0 % 81 - 40)) && true))) with h5 | h5
      · refine aw_p 7931 (
          .a 1 5 <|
          .p (does_callB (x := .func 134) (ars := #[.tmp 15, .const (.int .i64 2)]) (ats := #[125, 3]) (g := 134) (vs := [.pointer (some ⟨2, 0, none⟩), .int .i64 2]) (m := 2) (r := 1) (firsts := #[]) (caps := #[]) (args0 := [.pointer (some ⟨0, 0, none⟩), .int .i64 2]) (pre0 := [(0, ⟨[.slice (some ⟨1, (4 * i), none⟩) (xs.length - (4 * i)) 0], 127, true, 1⟩), (1, ⟨(xs.map i64v), 3, false, 1⟩)]) (post0 := [(0, ⟨[.slice (some ⟨1, (4 * i + 4), none⟩) (xs.length - (4 * i + 4)) 0], 127, true, 1⟩), (2, ⟨[.int .i64 (xs.getD (4 * i + 0) 0 % 81 - 40), .int .i64 (xs.getD (4 * i + 1) 0 % 81 - 40), .int .i64 ((xs.getD (4 * i + 2) 0 % 81 - 40) + 1), .int .i64 (xs.getD (4 * i + 3) 0 % 81 - 40)], 24, true, 2⟩)]) (pre := [(2, ⟨[.slice (some ⟨0, (4 * i), none⟩) (xs.length - 4 * i) 0], 127, true, 1⟩), (0, ⟨(xs.map i64v), 3, false, 1⟩)]) (post := [(2, ⟨[.slice (some ⟨0, (4 * i + 4), none⟩) (xs.length - (4 * i + 4)) 0], 127, true, 1⟩), (5, ⟨[.int .i64 (xs.getD (4 * i + 0) 0 % 81 - 40), .int .i64 (xs.getD (4 * i + 1) 0 % 81 - 40), .int .i64 ((xs.getD (4 * i + 2) 0 % 81 - 40) + 1), .int .i64 (xs.getD (4 * i + 3) 0 % 81 - 40)], 24, true, 2⟩)]) (v0 := .slice (some ⟨2, 0, none⟩) 2 0) (v := .slice (some ⟨5, 0, none⟩) 2 0) [2, 0, 5] (by kernel_rfl) (by kernel_rfl) (by kernel_rfl) (by kernel_rfl) (line2_eq xs (4 * i) (by omega) h5) (.cons (.ptr _ _ (by decide)) (.cons (.flatB (by kernel_rfl)) .nil)) ⟨rfl, ⟨rfl, rfl, rfl, (.cons (.slice _ _ _ _ _ (by decide)) .nil)⟩, rfl, ⟨rfl, rfl, rfl, (.flats (flats_map (fun _ => rfl) _))⟩, trivial⟩ (by kernel_rfl) (by kernel_rfl) (by kernel_rfl) ⟨rfl, ⟨rfl, rfl, rfl, (.cons (.slice _ _ _ _ _ (by decide)) .nil)⟩, rfl, ⟨rfl, rfl, rfl, (.flats (by kernel_rfl))⟩, trivial⟩ (.slice _ _ _ _ _ (by decide))) <|
          .a 1 6 <| .nil _ _) ?_
        refine aw_d1 (
          .a 9 6 <|
          .p (does_apy 7 96 4 32 1 i 6 1 ⟨((List.range i).flatMap (Sp.sgc xs)), 96, true, 4⟩ ⟨[.int .i64 (xs.getD (4 * i + 0) 0 % 81 - 40), .int .i64 (xs.getD (4 * i + 1) 0 % 81 - 40), .int .i64 ((xs.getD (4 * i + 2) 0 % 81 - 40) + 1), .int .i64 (xs.getD (4 * i + 3) 0 % 81 - 40)], 96, true, 4⟩ ((List.range (i + 1)).flatMap (Sp.sgc xs)) (by kernel_rfl) (by kernel_rfl) (by kernel_rfl) (by kernel_rfl) (by kernel_rfl) (range_len (f := (Sp.sgc xs)) (z := 4) (fun _ => rfl) _) (by omega) (by omega) (range_snoc (Sp.sgc_t h5))) <|
          .a 1 8 <| .nil _ _) ?_
        refine block_normal ?_
        refine then_normal ?_
        refine aw_p1 (
          .p (does_i (((i : Nat) : Int) + 1) (wrap_i64 (by omega) (by omega)) .i64) <| .a 1 8 <| .nil _ _) ?_
        refine then_normal ?_
        refine al_r [(1, 7)] [(0, .slice (some ⟨0, 0, none⟩) xs.length 0), (2, .slice none 0 0), (3, .pointer (some ⟨2, 0, none⟩)), (4, .slice (some ⟨7, 0, none⟩) (i + 1) 0), (12, .int .i64 ((n : Nat) : Int)), (13, .int .i64 (((i + 1) : Nat) : Int))] [(0, ⟨(xs.map i64v), 3, false, 1⟩), (7, ⟨((List.range (i + 1)).flatMap (Sp.sgc xs)), 96, true, 4⟩), (2, ⟨[.slice (some ⟨0, (4 * (i + 1)), none⟩) (xs.length - 4 * (i + 1)) 0], 127, true, 1⟩)] [(0, .slice (some ⟨0, 0, none⟩) xs.length 0), (2, .slice none 0 0), (3, .pointer (some ⟨2, 0, none⟩)), (4, .slice (some ⟨1, 0, none⟩) (i + 1) 0), (12, .int .i64 ((n : Nat) : Int)), (13, .int .i64 (((i + 1) : Nat) : Int))] [(0, ⟨(xs.map i64v), 3, false, 1⟩), (1, ⟨((List.range (i + 1)).flatMap (Sp.sgc xs)), 96, true, 4⟩), (2, ⟨[.slice (some ⟨0, (4 * (i + 1)), none⟩) (xs.length - 4 * (i + 1)) 0], 127, true, 1⟩)] ?_ ⟨rfl, (.slice _ _ _ _ _ rfl), rfl, (.flatB (by kernel_rfl)), rfl, (.ptr _ _ rfl), rfl, (.slice _ _ _ _ _ rfl), rfl, (.flatB (by kernel_rfl)), rfl, (.flatB (by kernel_rfl)), trivial⟩ ⟨rfl, ⟨rfl, rfl, rfl, (.flats (flats_map (fun _ => rfl) _))⟩, rfl, ⟨rfl, rfl, rfl, (.flats (range_flats (fun _ => rfl) _))⟩, rfl, ⟨rfl, rfl, rfl, (.cons (.slice _ _ _ _ _ rfl) .nil)⟩, trivial⟩
        exact ih2 (i + 1) (show (1 ≤ (i + 1) ∧ (i + 1) ≤ n) from by omega) (show n - (i + 1) < n - i from by omega)
      · refine aw_p 7931 (
          .a 1 5 <|
          .p (does_callB (x := .func 134) (ars := #[.tmp 15, .const (.int .i64 2)]) (ats := #[125, 3]) (g := 134) (vs := [.pointer (some ⟨2, 0, none⟩), .int .i64 2]) (m := 2) (r := 1) (firsts := #[]) (caps := #[]) (args0 := [.pointer (some ⟨0, 0, none⟩), .int .i64 2]) (pre0 := [(0, ⟨[.slice (some ⟨1, (4 * i), none⟩) (xs.length - (4 * i)) 0], 127, true, 1⟩), (1, ⟨(xs.map i64v), 3, false, 1⟩)]) (post0 := [(0, ⟨[.slice (some ⟨1, (4 * i + 4), none⟩) (xs.length - (4 * i + 4)) 0], 127, true, 1⟩), (2, ⟨[.int .i64 (xs.getD (4 * i + 0) 0 % 81 - 40), .int .i64 (xs.getD (4 * i + 1) 0 % 81 - 40), .int .i64 (xs.getD (4 * i + 2) 0 % 81 - 40), .int .i64 (xs.getD (4 * i + 3) 0 % 81 - 40)], 24, true, 2⟩)]) (pre := [(2, ⟨[.slice (some ⟨0, (4 * i), none⟩) (xs.length - 4 * i) 0], 127, true, 1⟩), (0, ⟨(xs.map i64v), 3, false, 1⟩)]) (post := [(2, ⟨[.slice (some ⟨0, (4 * i + 4), none⟩) (xs.length - (4 * i + 4)) 0], 127, true, 1⟩), (5, ⟨[.int .i64 (xs.getD (4 * i + 0) 0 % 81 - 40), .int .i64 (xs.getD (4 * i + 1) 0 % 81 - 40), .int .i64 (xs.getD (4 * i + 2) 0 % 81 - 40), .int .i64 (xs.getD (4 * i + 3) 0 % 81 - 40)], 24, true, 2⟩)]) (v0 := .slice (some ⟨2, 0, none⟩) 2 0) (v := .slice (some ⟨5, 0, none⟩) 2 0) [2, 0, 5] (by kernel_rfl) (by kernel_rfl) (by kernel_rfl) (by kernel_rfl) (line2_ne xs (4 * i) (by omega) h5) (.cons (.ptr _ _ (by decide)) (.cons (.flatB (by kernel_rfl)) .nil)) ⟨rfl, ⟨rfl, rfl, rfl, (.cons (.slice _ _ _ _ _ (by decide)) .nil)⟩, rfl, ⟨rfl, rfl, rfl, (.flats (flats_map (fun _ => rfl) _))⟩, trivial⟩ (by kernel_rfl) (by kernel_rfl) (by kernel_rfl) ⟨rfl, ⟨rfl, rfl, rfl, (.cons (.slice _ _ _ _ _ (by decide)) .nil)⟩, rfl, ⟨rfl, rfl, rfl, (.flats (by kernel_rfl))⟩, trivial⟩ (.slice _ _ _ _ _ (by decide))) <|
          .a 1 6 <| .nil _ _) ?_
        refine aw_d1 (
          .a 9 6 <|
          .p (does_apy 7 96 4 32 1 i 6 1 ⟨((List.range i).flatMap (Sp.sgc xs)), 96, true, 4⟩ ⟨[.int .i64 (xs.getD (4 * i + 0) 0 % 81 - 40), .int .i64 (xs.getD (4 * i + 1) 0 % 81 - 40), .int .i64 (xs.getD (4 * i + 2) 0 % 81 - 40), .int .i64 (xs.getD (4 * i + 3) 0 % 81 - 40)], 96, true, 4⟩ ((List.range (i + 1)).flatMap (Sp.sgc xs)) (by kernel_rfl) (by kernel_rfl) (by kernel_rfl) (by kernel_rfl) (by kernel_rfl) (range_len (f := (Sp.sgc xs)) (z := 4) (fun _ => rfl) _) (by omega) (by omega) (range_snoc (Sp.sgc_f h5))) <|
          .a 1 8 <| .nil _ _) ?_
        refine block_normal ?_
        refine then_normal ?_
        refine aw_p1 (
          .p (does_i (((i : Nat) : Int) + 1) (wrap_i64 (by omega) (by omega)) .i64) <| .a 1 8 <| .nil _ _) ?_
        refine then_normal ?_
        refine al_r [(1, 7)] [(0, .slice (some ⟨0, 0, none⟩) xs.length 0), (2, .slice none 0 0), (3, .pointer (some ⟨2, 0, none⟩)), (4, .slice (some ⟨7, 0, none⟩) (i + 1) 0), (12, .int .i64 ((n : Nat) : Int)), (13, .int .i64 (((i + 1) : Nat) : Int))] [(0, ⟨(xs.map i64v), 3, false, 1⟩), (7, ⟨((List.range (i + 1)).flatMap (Sp.sgc xs)), 96, true, 4⟩), (2, ⟨[.slice (some ⟨0, (4 * (i + 1)), none⟩) (xs.length - 4 * (i + 1)) 0], 127, true, 1⟩)] [(0, .slice (some ⟨0, 0, none⟩) xs.length 0), (2, .slice none 0 0), (3, .pointer (some ⟨2, 0, none⟩)), (4, .slice (some ⟨1, 0, none⟩) (i + 1) 0), (12, .int .i64 ((n : Nat) : Int)), (13, .int .i64 (((i + 1) : Nat) : Int))] [(0, ⟨(xs.map i64v), 3, false, 1⟩), (1, ⟨((List.range (i + 1)).flatMap (Sp.sgc xs)), 96, true, 4⟩), (2, ⟨[.slice (some ⟨0, (4 * (i + 1)), none⟩) (xs.length - 4 * (i + 1)) 0], 127, true, 1⟩)] ?_ ⟨rfl, (.slice _ _ _ _ _ rfl), rfl, (.flatB (by kernel_rfl)), rfl, (.ptr _ _ rfl), rfl, (.slice _ _ _ _ _ rfl), rfl, (.flatB (by kernel_rfl)), rfl, (.flatB (by kernel_rfl)), trivial⟩ ⟨rfl, ⟨rfl, rfl, rfl, (.flats (flats_map (fun _ => rfl) _))⟩, rfl, ⟨rfl, rfl, rfl, (.flats (range_flats (fun _ => rfl) _))⟩, rfl, ⟨rfl, rfl, rfl, (.cons (.slice _ _ _ _ _ rfl) .nil)⟩, trivial⟩
        exact ih2 (i + 1) (show (1 ≤ (i + 1) ∧ (i + 1) ≤ n) from by omega) (show n - (i + 1) < n - i from by omega)
    · have h4p : ¬ ((((i : Nat) : Int) < ((n : Nat) : Int))) := by first | (simpa using h4) | (have h4q := h4; simp at h4q; omega) | (have h4q := bx2 h4; simp at h4q; omega)
      have hin : i = n := by omega
      refine aw_ex 0 ?_
      refine then_exit ?_
      refine then_exit ?_
      refine block_exit ?_
      refine then_normal ?_
      refine aw_w [(0, .slice (some ⟨0, 0, none⟩) xs.length 0), (2, .slice none 0 0), (3, .pointer (some ⟨2, 0, none⟩)), (4, .slice (some ⟨1, 0, none⟩) n 0), (12, .int .i64 ((n : Nat) : Int)), (13, .int .i64 ((n : Nat) : Int)), (14, .bool (decide (((n : Nat) : Int) < ((n : Nat) : Int))))] [(0, ⟨(xs.map i64v), 3, false, 1⟩), (1, ⟨((List.range n).flatMap (Sp.sgc xs)), 96, true, 4⟩), (2, ⟨[.slice (some ⟨0, (4 * n), none⟩) (xs.length - 4 * n) 0], 127, true, 1⟩)] ?_ (by subst hin; kernel_rfl) (by subst hin; kernel_rfl) (hc := (by simp [closedB, valsB, valB, List.all_eq_true, List.mem_flatMap, List.mem_range, List.mem_map, i64v, Sp.sgc, flat1]; try (intros; simp [valsB, valB, flat1]); try decide))
      refine aw_p 63 (
        .a 2 5 <| .nil _ _) ?_
      refine aw_rt ?_
      exact en_ret [.slice (some ⟨1, 0, none⟩) n 0] (by kernel_rfl)


end Go.Proofs.Ytigllakcfdoagaa.Am
