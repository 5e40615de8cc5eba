/-
  The walks of boxes out of numbers.
-/
import Derived.Test.YtmpeiinmbpjjdaaProg
import Derived.Test.YtmpeiinmbpjjdaaAm16
import Derived.Test.YtmpeiinmbpjjdaaAm18
import Derived.Test.YtmpeiinmbpjjdaaBs1
import Derived.Test.YtmpeiinmbpjjdaaPt2
namespace Go.Proofs.Ytmpeiinmbpjjdaa.Am
open Go Go.Proofs
set_option maxRecDepth 100000
set_option maxHeartbeats 4000000
set_option linter.unusedVariables false
set_option linter.unusedSimpArgs false

theorem spointx_ok (xs : List Int) (p : Nat) (hp : p + 2 ≤ xs.length) :
    AC Try.prog 20 2 ([.pointer (some ⟨0, 0, none⟩)]) [(0, ⟨[.slice (some ⟨1, p, none⟩) (xs.length - p) 0], 48, true, 1⟩), (1, ⟨(xs.map i64v), 3, false, 1⟩)] (.agg #[.int .i64 (xs.getD p 0 % 81 - 40), .int .i64 (xs.getD (p + 1) 0 % 81 - 40)]) [(0, ⟨[.slice (some ⟨1, (p + 2), none⟩) (xs.length - (p + 2)) 0], 48, true, 1⟩)] := by
  have q1 := Sp.emod_bd (xs.getD p 0) (n := 81) (by decide); have q2 := Sp.emod_bd (xs.getD (p + 1) 0) (n := 81) (by decide)
  refine ac_in Try.func20 (fun w0 W pin => ?_)
  refine aw_p 3 (
    .a 1 2 <| .nil _ _) ?_
  refine aw_p 7 (
    .a 1 3 <|
    .p (does_callB (x := .func 21) (ars := #[.tmp 3, .const (.int .i64 81)]) (ats := #[46, 3]) (g := 21) (vs := [.pointer (some ⟨0, 0, none⟩), .int .i64 81]) (m := 2) (r := 0) (firsts := #[]) (caps := #[]) (args0 := [.pointer (some ⟨0, 0, none⟩), .int .i64 81]) (pre0 := [(0, ⟨[.slice (some ⟨1, p, none⟩) (xs.length - p) 0], 48, true, 1⟩), (1, ⟨(xs.map i64v), 3, false, 1⟩)]) (post0 := [(0, ⟨[.slice (some ⟨1, (p + 1), none⟩) (xs.length - (p + 1)) 0], 48, true, 1⟩)]) (pre := [(0, ⟨[.slice (some ⟨1, p, none⟩) (xs.length - p) 0], 48, true, 1⟩), (1, ⟨(xs.map i64v), 3, false, 1⟩)]) (post := [(0, ⟨[.slice (some ⟨1, (p + 1), none⟩) (xs.length - (p + 1)) 0], 48, true, 1⟩)]) (v0 := .int .i64 (xs.getD p 0 % 81)) (v := .int .i64 (xs.getD p 0 % 81)) [0, 1] (by kernel_rfl) (by kernel_rfl) (by kernel_rfl) (by kernel_rfl) (next_ro xs p 81 (by omega) (by decide) (by decide)) (.cons (.ptr _ _ (by decide)) (.cons (.flatB (by kernel_rfl)) .nil)) ⟨rfl, ⟨rfl, rfl, rfl, (.cons (.slice _ _ _ _ _ (by decide)) .nil)⟩, rfl, ⟨rfl, rfl, rfl, (.flats (flats_map (fun _ => rfl) _))⟩, trivial⟩ (by kernel_rfl) (by kernel_rfl) (by kernel_rfl) ⟨rfl, ⟨rfl, rfl, rfl, (.cons (.slice _ _ _ _ _ (by decide)) .nil)⟩, trivial⟩ (.flatB (by kernel_rfl))) <|
    .p (does_i ((xs.getD p 0 % 81) - 40) (wrap_i64 (by omega) (by omega)) .i64) <| .a 1 3 <|
    .p (does_callB (x := .func 21) (ars := #[.tmp 6, .const (.int .i64 81)]) (ats := #[46, 3]) (g := 21) (vs := [.pointer (some ⟨0, 0, none⟩), .int .i64 81]) (m := 2) (r := 0) (firsts := #[]) (caps := #[]) (args0 := [.pointer (some ⟨0, 0, none⟩), .int .i64 81]) (pre0 := [(0, ⟨[.slice (some ⟨1, (p + 1), none⟩) (xs.length - (p + 1)) 0], 48, true, 1⟩), (1, ⟨(xs.map i64v), 3, false, 1⟩)]) (post0 := [(0, ⟨[.slice (some ⟨1, (p + 1 + 1), none⟩) (xs.length - (p + 1 + 1)) 0], 48, true, 1⟩)]) (pre := [(0, ⟨[.slice (some ⟨1, (p + 1), none⟩) (xs.length - (p + 1)) 0], 48, true, 1⟩), (1, ⟨(xs.map i64v), 3, false, 1⟩)]) (post := [(0, ⟨[.slice (some ⟨1, (p + 1 + 1), none⟩) (xs.length - (p + 1 + 1)) 0], 48, true, 1⟩)]) (v0 := .int .i64 (xs.getD (p + 1) 0 % 81)) (v := .int .i64 (xs.getD (p + 1) 0 % 81)) [0, 1] (by kernel_rfl) (by kernel_rfl) (by kernel_rfl) (by kernel_rfl) (next_ro xs (p + 1) 81 (by omega) (by decide) (by decide)) (.cons (.ptr _ _ (by decide)) (.cons (.flatB (by kernel_rfl)) .nil)) ⟨rfl, ⟨rfl, rfl, rfl, (.cons (.slice _ _ _ _ _ (by decide)) .nil)⟩, rfl, ⟨rfl, rfl, rfl, (.flats (flats_map (fun _ => rfl) _))⟩, trivial⟩ (by kernel_rfl) (by kernel_rfl) (by kernel_rfl) ⟨rfl, ⟨rfl, rfl, rfl, (.cons (.slice _ _ _ _ _ (by decide)) .nil)⟩, trivial⟩ (.flatB (by kernel_rfl))) <|
    .p (does_i ((xs.getD (p + 1) 0 % 81) - 40) (wrap_i64 (by omega) (by omega)) .i64) <| .a 2 3 <| .nil _ _) ?_
  refine aw_rt ?_
  exact en_ret [.agg #[.int .i64 ((xs.getD p 0 % 81) - 40), .int .i64 ((xs.getD (p + 1) 0 % 81) - 40)]] (show (.agg #[.int .i64 ((xs.getD p 0 % 81) - 40), .int .i64 ((xs.getD (p + 1) 0 % 81) - 40)] : Value) = (.agg #[.int .i64 (xs.getD p 0 % 81 - 40), .int .i64 (xs.getD (p + 1) 0 % 81 - 40)]) from (congrArg (fun z : List Value => Value.agg z.toArray) (lcons (congrArg (Value.int .i64) (show ((xs.getD p 0 % 81) - 40) = (xs.getD p 0 % 81 - 40) from by rfl)) (lcons (congrArg (Value.int .i64) (show ((xs.getD (p + 1) 0 % 81) - 40) = (xs.getD (p + 1) 0 % 81 - 40) from by rfl)) rfl))))

theorem boxes_nil (xs : List Int) (n : Nat) (hn : min (xs.length / 4) 12 = n) (h0 : n = 0) (hz : xs.length ≤ 9223372036854775807) :
    AC Try.prog 6 1 ([.slice (some ⟨0, 0, none⟩) xs.length 0]) [(0, ⟨(xs.map i64v), 3, false, 1⟩)] (.slice none 0 0) [] := by
  have e1 : Int.tdiv ((xs.length : Nat) : Int) 4 = ((xs.length / 4 : Nat) : Int) := by rw [Int.tdiv_eq_ediv_of_nonneg (by omega)]; omega
  have hb : Sp.mn (Int.tdiv ((xs.length : Nat) : Int) 4) 12 = ((n : Nat) : Int) := by rw [e1, ← hn]; unfold Sp.mn; split <;> omega
  have hl : 4 * n ≤ xs.length ∧ n ≤ 12 := by omega
  refine ac_in Try.func6 (fun w0 W pin => ?_)
  refine aw_p 3 (
    .a 1 2 <| .nil _ _) ?_
  refine aw_p 7 (
    .a 4 2 <| .nil _ _) ?_
  refine aw_p 15 (
    .a 1 3 <| .nil _ _) ?_
  refine aw_sq 30 31 ?_
  refine aw_p 61 (
    .a 2 3 <| .p (does_i (Int.tdiv ((xs.length : Nat) : Int) 4) (wrap_i64 (by rw [e1]; omega) (by rw [e1]; omega)) .i64) <| .p (does_i ((n : Nat) : Int) (hb) .i64) <| .a 1 3 <| .nil _ _) ?_
  refine aw_bl 0 123 ?_
  refine aw_lp 247 ?_
  refine al_round ?_
  refine aw_p 495 (
    .p (does_b false ((show (decide (0 < ((n : Nat) : Int))) = false from decide_eq_false (by omega)))) <| .nil _ _) ?_
  refine aw_sq 990 991 ?_
  refine aw_fl 1981 ?_
  refine aw_ex 0 ?_
  refine then_exit ?_
  refine then_exit ?_
  refine block_exit ?_
  refine then_normal ?_
  refine aw_p 63 (
    .a 2 3 <| .nil _ _) ?_
  refine aw_rt ?_
  exact en_ret [.slice none 0 0] (by kernel_rfl)

theorem boxes_some (xs : List Int) (n : Nat) (hn : min (xs.length / 4) 12 = n) (h0 : 0 < n) (hz : xs.length ≤ 9223372036854775807) :
    AC Try.prog 6 1 ([.slice (some ⟨0, 0, none⟩) xs.length 0]) [(0, ⟨(xs.map i64v), 3, false, 1⟩)] (.slice (some ⟨1, 0, none⟩) n 0) [(1, ⟨((List.range n).flatMap (Sp.bxc xs)), 29, true, 4⟩)] := by
  have e1 : Int.tdiv ((xs.length : Nat) : Int) 4 = ((xs.length / 4 : Nat) : Int) := by rw [Int.tdiv_eq_ediv_of_nonneg (by omega)]; omega
  have hb : Sp.mn (Int.tdiv ((xs.length : Nat) : Int) 4) 12 = ((n : Nat) : Int) := by rw [e1, ← hn]; unfold Sp.mn; split <;> omega
  have hl : 4 * n ≤ xs.length ∧ n ≤ 12 := by omega
  refine ac_in Try.func6 (fun w0 W pin => ?_)
  refine aw_p 3 (
    .a 1 2 <| .nil _ _) ?_
  refine aw_p 7 (
    .a 4 2 <| .nil _ _) ?_
  refine aw_p 15 (
    .a 1 3 <| .nil _ _) ?_
  refine aw_sq 30 31 ?_
  refine aw_p 61 (
    .a 2 3 <| .p (does_i (Int.tdiv ((xs.length : Nat) : Int) 4) (wrap_i64 (by rw [e1]; omega) (by rw [e1]; omega)) .i64) <| .p (does_i ((n : Nat) : Int) (hb) .i64) <| .a 1 3 <| .nil _ _) ?_
  refine aw_bl 0 123 ?_
  refine aw_lp 247 ?_
  refine al_round ?_
  refine aw_p 495 (
    .p (does_b true ((show (decide (0 < ((n : Nat) : Int))) = true from decide_eq_true (by omega)))) <| .nil _ _) ?_
  refine aw_sq 990 991 ?_
  refine aw_tr 1980 ?_
  refine aw_sk ?_
  refine then_normal ?_
  refine aw_sq 1982 1983 ?_
  refine aw_bl 1 3965 ?_
  have y0 := Sp.emod_bd (xs.getD 0 0) (n := 81) (by decide)
  have y1 := Sp.emod_bd (xs.getD 1 0) (n := 81) (by decide)
  have y2 := Sp.emod_bd (xs.getD 2 0) (n := 12) (by decide)
  have y3 := Sp.emod_bd (xs.getD 3 0) (n := 12) (by decide)
  refine aw_p 7931 (
    .a 1 3 <|
    .p (does_callB (x := .func 20) (ars := #[.tmp 15]) (ats := #[46]) (g := 20) (vs := [.pointer (some ⟨2, 0, none⟩)]) (m := 2) (r := 0) (firsts := #[]) (caps := #[]) (args0 := [.pointer (some ⟨0, 0, none⟩)]) (pre0 := [(0, ⟨[.slice (some ⟨1, 0, none⟩) (xs.length - 0) 0], 48, true, 1⟩), (1, ⟨(xs.map i64v), 3, false, 1⟩)]) (post0 := [(0, ⟨[.slice (some ⟨1, 2, none⟩) (xs.length - 2) 0], 48, true, 1⟩)]) (pre := [(2, ⟨[.slice (some ⟨0, 0, none⟩) xs.length 0], 48, true, 1⟩), (0, ⟨(xs.map i64v), 3, false, 1⟩)]) (post := [(2, ⟨[.slice (some ⟨0, 2, none⟩) (xs.length - 2) 0], 48, true, 1⟩)]) (v0 := .agg #[.int .i64 (xs.getD 0 0 % 81 - 40), .int .i64 (xs.getD 1 0 % 81 - 40)]) (v := .agg #[.int .i64 (xs.getD 0 0 % 81 - 40), .int .i64 (xs.getD 1 0 % 81 - 40)]) [2, 0] (by kernel_rfl) (by kernel_rfl) (by kernel_rfl) (by kernel_rfl) (spointx_ok xs 0 (by omega)) (.cons (.ptr _ _ (by decide)) .nil) ⟨rfl, ⟨rfl, rfl, rfl, (.cons (.slice _ _ _ _ _ (by decide)) .nil)⟩, rfl, ⟨rfl, rfl, rfl, (.flats (flats_map (fun _ => rfl) _))⟩, trivial⟩ (by kernel_rfl) (by kernel_rfl) (by kernel_rfl) ⟨rfl, ⟨rfl, rfl, rfl, (.cons (.slice _ _ _ _ _ (by decide)) .nil)⟩, trivial⟩ (.flatB (by kernel_rfl))) <|
    .a 2 3 <| .nil _ _) ?_
  refine aw_d1 (
    .a 5 4 <|
    .p (does_callB (x := .func 21) (ars := #[.tmp 21, .const (.int .i64 12)]) (ats := #[46, 3]) (g := 21) (vs := [.pointer (some ⟨2, 0, none⟩), .int .i64 12]) (m := 2) (r := 0) (firsts := #[]) (caps := #[]) (args0 := [.pointer (some ⟨0, 0, none⟩), .int .i64 12]) (pre0 := [(0, ⟨[.slice (some ⟨1, 2, none⟩) (xs.length - 2) 0], 48, true, 1⟩), (1, ⟨(xs.map i64v), 3, false, 1⟩)]) (post0 := [(0, ⟨[.slice (some ⟨1, 3, none⟩) (xs.length - 3) 0], 48, true, 1⟩)]) (pre := [(2, ⟨[.slice (some ⟨0, 2, none⟩) (xs.length - 2) 0], 48, true, 1⟩), (0, ⟨(xs.map i64v), 3, false, 1⟩)]) (post := [(2, ⟨[.slice (some ⟨0, 3, none⟩) (xs.length - 3) 0], 48, true, 1⟩)]) (v0 := .int .i64 (xs.getD 2 0 % 12)) (v := .int .i64 (xs.getD 2 0 % 12)) [2, 0] (by kernel_rfl) (by kernel_rfl) (by kernel_rfl) (by kernel_rfl) (next_ro xs 2 12 (by omega) (by decide) (by decide)) (.cons (.ptr _ _ (by decide)) (.cons (.flatB (by kernel_rfl)) .nil)) ⟨rfl, ⟨rfl, rfl, rfl, (.cons (.slice _ _ _ _ _ (by decide)) .nil)⟩, rfl, ⟨rfl, rfl, rfl, (.flats (flats_map (fun _ => rfl) _))⟩, trivial⟩ (by kernel_rfl) (by kernel_rfl) (by kernel_rfl) ⟨rfl, ⟨rfl, rfl, rfl, (.cons (.slice _ _ _ _ _ (by decide)) .nil)⟩, trivial⟩ (.flatB (by kernel_rfl))) <|
    .p (does_i ((xs.getD 0 0 % 81 - 40) + (xs.getD 2 0 % 12)) (wrap_i64 (by omega) (by omega)) .i64) <| .a 3 4 <|
    .p (does_callB (x := .func 21) (ars := #[.tmp 26, .const (.int .i64 12)]) (ats := #[46, 3]) (g := 21) (vs := [.pointer (some ⟨2, 0, none⟩), .int .i64 12]) (m := 2) (r := 0) (firsts := #[]) (caps := #[]) (args0 := [.pointer (some ⟨0, 0, none⟩), .int .i64 12]) (pre0 := [(0, ⟨[.slice (some ⟨1, 3, none⟩) (xs.length - 3) 0], 48, true, 1⟩), (1, ⟨(xs.map i64v), 3, false, 1⟩)]) (post0 := [(0, ⟨[.slice (some ⟨1, 4, none⟩) (xs.length - 4) 0], 48, true, 1⟩)]) (pre := [(2, ⟨[.slice (some ⟨0, 3, none⟩) (xs.length - 3) 0], 48, true, 1⟩), (0, ⟨(xs.map i64v), 3, false, 1⟩)]) (post := [(2, ⟨[.slice (some ⟨0, 4, none⟩) (xs.length - 4) 0], 48, true, 1⟩)]) (v0 := .int .i64 (xs.getD 3 0 % 12)) (v := .int .i64 (xs.getD 3 0 % 12)) [2, 0] (by kernel_rfl) (by kernel_rfl) (by kernel_rfl) (by kernel_rfl) (next_ro xs 3 12 (by omega) (by decide) (by decide)) (.cons (.ptr _ _ (by decide)) (.cons (.flatB (by kernel_rfl)) .nil)) ⟨rfl, ⟨rfl, rfl, rfl, (.cons (.slice _ _ _ _ _ (by decide)) .nil)⟩, rfl, ⟨rfl, rfl, rfl, (.flats (flats_map (fun _ => rfl) _))⟩, trivial⟩ (by kernel_rfl) (by kernel_rfl) (by kernel_rfl) ⟨rfl, ⟨rfl, rfl, rfl, (.cons (.slice _ _ _ _ _ (by decide)) .nil)⟩, trivial⟩ (.flatB (by kernel_rfl))) <|
    .p (does_i ((xs.getD 1 0 % 81 - 40) + (xs.getD 3 0 % 12)) (wrap_i64 (by omega) (by omega)) .i64) <| .a 3 4 <| .p (does_ap 1) <| .a 1 5 <| .nil _ _) ?_
  refine block_normal ?_
  refine then_normal ?_
  refine aw_p1 (
    .a 2 5 <| .nil _ _) ?_
  refine then_normal ?_
  refine al_w [(0, .slice (some ⟨0, 0, none⟩) xs.length 0), (2, .slice none 0 0), (3, .pointer (some ⟨2, 0, none⟩)), (4, .slice (some ⟨1, 0, none⟩) 1 0), (12, .int .i64 ((n : Nat) : Int)), (13, .int .i64 ((1 : Nat) : Int))] [(0, ⟨(xs.map i64v), 3, false, 1⟩), (1, ⟨((List.range 1).flatMap (Sp.bxc xs)), 29, true, 4⟩), (2, ⟨[.slice (some ⟨0, (4 * 1), none⟩) (xs.length - 4 * 1) 0], 48, true, 1⟩)] ?_ (hc := (by simp [closedB, valsB, valB, List.all_eq_true, List.mem_flatMap, List.mem_range, List.mem_map, i64v, Sp.bxc, flat1]; try (intros; simp [valsB, valB, flat1]); try decide))
  refine al_ind (fun i : Nat => (fun (i : Nat) => mkSt 1 [(0, .slice (some ⟨0, 0, none⟩) xs.length 0), (2, .slice none 0 0), (3, .pointer (some ⟨2, 0, none⟩)), (4, .slice (some ⟨1, 0, none⟩) i 0), (12, .int .i64 ((n : Nat) : Int)), (13, .int .i64 ((i : Nat) : Int))] [(0, ⟨(xs.map i64v), 3, false, 1⟩), (1, ⟨((List.range i).flatMap (Sp.bxc xs)), 29, true, 4⟩), (2, ⟨[.slice (some ⟨0, (4 * i), none⟩) (xs.length - 4 * i) 0], 48, true, 1⟩)]) i) (fun i : Nat => (fun (i : Nat) => (1 ≤ i ∧ i ≤ n)) i) (fun i : Nat => (fun (i : Nat) => n - i) i) (fun i hi1 ih1 => ?_) 1 (show (1 ≤ 1 ∧ 1 ≤ n) from by omega)
  obtain ⟨i, hv1⟩ : ∃ z, z = i := ⟨i, rfl⟩; subst hv1
  have hi1' : (1 ≤ i ∧ i ≤ n) := hi1
  have hi : 1 ≤ i ∧ i ≤ n := hi1'
  show AL _ _ _ (mkSt 1 [(0, .slice (some ⟨0, 0, none⟩) xs.length 0), (2, .slice none 0 0), (3, .pointer (some ⟨2, 0, none⟩)), (4, .slice (some ⟨1, 0, none⟩) i 0), (12, .int .i64 ((n : Nat) : Int)), (13, .int .i64 ((i : Nat) : Int))] [(0, ⟨(xs.map i64v), 3, false, 1⟩), (1, ⟨((List.range i).flatMap (Sp.bxc xs)), 29, true, 4⟩), (2, ⟨[.slice (some ⟨0, (4 * i), none⟩) (xs.length - 4 * i) 0], 48, true, 1⟩)]) _
  refine al_round ?_
  refine aw_p 495 (
    .a 1 5 <| .nil _ _) ?_
  refine aw_sq 990 991 ?_
  refine aw_cd 1980 1981 (decide (((i : Nat) : Int) < ((n : Nat) : Int))) (fun h1 => ?_) (fun h1 => ?_)
  · have h1p : ((((i : Nat) : Int) < ((n : Nat) : Int))) := by first | (simpa using h1) | (have h1q := h1; simp at h1q; omega) | (have h1q := bx1 h1; simp at h1q; omega)
    refine aw_sk ?_
    refine then_normal ?_
    refine aw_sq 1982 1983 ?_
    refine aw_bl 1 3965 ?_
    have y0 := Sp.emod_bd (xs.getD (4 * i + 0) 0) (n := 81) (by decide)
    have y1 := Sp.emod_bd (xs.getD (4 * i + 1) 0) (n := 81) (by decide)
    have y2 := Sp.emod_bd (xs.getD (4 * i + 2) 0) (n := 12) (by decide)
    have y3 := Sp.emod_bd (xs.getD (4 * i + 3) 0) (n := 12) (by decide)
    have y4 := Sp.emod_bd (xs.getD (4 * i + 1 + 1) 0) (n := 12) (by decide); have y5 := Sp.emod_bd (xs.getD (4 * i + 2 + 1) 0) (n := 12) (by decide)
    refine aw_p 7931 (
      .a 1 5 <|
      .p (does_callB (x := .func 20) (ars := #[.tmp 15]) (ats := #[46]) (g := 20) (vs := [.pointer (some ⟨2, 0, none⟩)]) (m := 2) (r := 0) (firsts := #[]) (caps := #[]) (args0 := [.pointer (some ⟨0, 0, none⟩)]) (pre0 := [(0, ⟨[.slice (some ⟨1, (4 * i), none⟩) (xs.length - (4 * i)) 0], 48, true, 1⟩), (1, ⟨(xs.map i64v), 3, false, 1⟩)]) (post0 := [(0, ⟨[.slice (some ⟨1, (4 * i + 2), none⟩) (xs.length - (4 * i + 2)) 0], 48, true, 1⟩)]) (pre := [(2, ⟨[.slice (some ⟨0, (4 * i), none⟩) (xs.length - 4 * i) 0], 48, true, 1⟩), (0, ⟨(xs.map i64v), 3, false, 1⟩)]) (post := [(2, ⟨[.slice (some ⟨0, (4 * i + 2), none⟩) (xs.length - (4 * i + 2)) 0], 48, true, 1⟩)]) (v0 := .agg #[.int .i64 (xs.getD (4 * i) 0 % 81 - 40), .int .i64 (xs.getD (4 * i + 1) 0 % 81 - 40)]) (v := .agg #[.int .i64 (xs.getD (4 * i) 0 % 81 - 40), .int .i64 (xs.getD (4 * i + 1) 0 % 81 - 40)]) [2, 0] (by kernel_rfl) (by kernel_rfl) (by kernel_rfl) (by kernel_rfl) (spointx_ok xs (4 * i) (by omega)) (.cons (.ptr _ _ (by decide)) .nil) ⟨rfl, ⟨rfl, rfl, rfl, (.cons (.slice _ _ _ _ _ (by decide)) .nil)⟩, rfl, ⟨rfl, rfl, rfl, (.flats (flats_map (fun _ => rfl) _))⟩, trivial⟩ (by kernel_rfl) (by kernel_rfl) (by kernel_rfl) ⟨rfl, ⟨rfl, rfl, rfl, (.cons (.slice _ _ _ _ _ (by decide)) .nil)⟩, trivial⟩ (.flatB (by kernel_rfl))) <|
      .a 2 5 <| .nil _ _) ?_
    refine aw_d1 (
      .a 5 6 <|
      .p (does_callB (x := .func 21) (ars := #[.tmp 21, .const (.int .i64 12)]) (ats := #[46, 3]) (g := 21) (vs := [.pointer (some ⟨2, 0, none⟩), .int .i64 12]) (m := 2) (r := 0) (firsts := #[]) (caps := #[]) (args0 := [.pointer (some ⟨0, 0, none⟩), .int .i64 12]) (pre0 := [(0, ⟨[.slice (some ⟨1, (4 * i + 2), none⟩) (xs.length - (4 * i + 2)) 0], 48, true, 1⟩), (1, ⟨(xs.map i64v), 3, false, 1⟩)]) (post0 := [(0, ⟨[.slice (some ⟨1, (4 * i + 2 + 1), none⟩) (xs.length - (4 * i + 2 + 1)) 0], 48, true, 1⟩)]) (pre := [(2, ⟨[.slice (some ⟨0, (4 * i + 2), none⟩) (xs.length - (4 * i + 2)) 0], 48, true, 1⟩), (0, ⟨(xs.map i64v), 3, false, 1⟩)]) (post := [(2, ⟨[.slice (some ⟨0, (4 * i + 2 + 1), none⟩) (xs.length - (4 * i + 2 + 1)) 0], 48, true, 1⟩)]) (v0 := .int .i64 (xs.getD (4 * i + 2) 0 % 12)) (v := .int .i64 (xs.getD (4 * i + 2) 0 % 12)) [2, 0] (by kernel_rfl) (by kernel_rfl) (by kernel_rfl) (by kernel_rfl) (next_ro xs (4 * i + 2) 12 (by omega) (by decide) (by decide)) (.cons (.ptr _ _ (by decide)) (.cons (.flatB (by kernel_rfl)) .nil)) ⟨rfl, ⟨rfl, rfl, rfl, (.cons (.slice _ _ _ _ _ (by decide)) .nil)⟩, rfl, ⟨rfl, rfl, rfl, (.flats (flats_map (fun _ => rfl) _))⟩, trivial⟩ (by kernel_rfl) (by kernel_rfl) (by kernel_rfl) ⟨rfl, ⟨rfl, rfl, rfl, (.cons (.slice _ _ _ _ _ (by decide)) .nil)⟩, trivial⟩ (.flatB (by kernel_rfl))) <|
      .p (does_i ((xs.getD (4 * i) 0 % 81 - 40) + (xs.getD (4 * i + 2) 0 % 12)) (wrap_i64 (by omega) (by omega)) .i64) <| .a 3 6 <|
      .p (does_callB (x := .func 21) (ars := #[.tmp 26, .const (.int .i64 12)]) (ats := #[46, 3]) (g := 21) (vs := [.pointer (some ⟨2, 0, none⟩), .int .i64 12]) (m := 2) (r := 0) (firsts := #[]) (caps := #[]) (args0 := [.pointer (some ⟨0, 0, none⟩), .int .i64 12]) (pre0 := [(0, ⟨[.slice (some ⟨1, (4 * i + 2 + 1), none⟩) (xs.length - (4 * i + 2 + 1)) 0], 48, true, 1⟩), (1, ⟨(xs.map i64v), 3, false, 1⟩)]) (post0 := [(0, ⟨[.slice (some ⟨1, (4 * i + 2 + 1 + 1), none⟩) (xs.length - (4 * i + 2 + 1 + 1)) 0], 48, true, 1⟩)]) (pre := [(2, ⟨[.slice (some ⟨0, (4 * i + 2 + 1), none⟩) (xs.length - (4 * i + 2 + 1)) 0], 48, true, 1⟩), (0, ⟨(xs.map i64v), 3, false, 1⟩)]) (post := [(2, ⟨[.slice (some ⟨0, (4 * i + 2 + 1 + 1), none⟩) (xs.length - (4 * i + 2 + 1 + 1)) 0], 48, true, 1⟩)]) (v0 := .int .i64 (xs.getD (4 * i + 2 + 1) 0 % 12)) (v := .int .i64 (xs.getD (4 * i + 2 + 1) 0 % 12)) [2, 0] (by kernel_rfl) (by kernel_rfl) (by kernel_rfl) (by kernel_rfl) (next_ro xs (4 * i + 2 + 1) 12 (by omega) (by decide) (by decide)) (.cons (.ptr _ _ (by decide)) (.cons (.flatB (by kernel_rfl)) .nil)) ⟨rfl, ⟨rfl, rfl, rfl, (.cons (.slice _ _ _ _ _ (by decide)) .nil)⟩, rfl, ⟨rfl, rfl, rfl, (.flats (flats_map (fun _ => rfl) _))⟩, trivial⟩ (by kernel_rfl) (by kernel_rfl) (by kernel_rfl) ⟨rfl, ⟨rfl, rfl, rfl, (.cons (.slice _ _ _ _ _ (by decide)) .nil)⟩, trivial⟩ (.flatB (by kernel_rfl))) <|
      .p (does_i ((xs.getD (4 * i + 1) 0 % 81 - 40) + (xs.getD (4 * i + 2 + 1) 0 % 12)) (wrap_i64 (by omega) (by omega)) .i64) <| .a 3 6 <|
      .p (does_apy 7 29 4 32 1 i 6 1 ⟨((List.range i).flatMap (Sp.bxc xs)), 29, true, 4⟩ ⟨[.int .i64 (xs.getD (4 * i) 0 % 81 - 40), .int .i64 (xs.getD (4 * i + 1) 0 % 81 - 40), .int .i64 ((xs.getD (4 * i) 0 % 81 - 40) + (xs.getD (4 * i + 2) 0 % 12)), .int .i64 ((xs.getD (4 * i + 1) 0 % 81 - 40) + (xs.getD (4 * i + 2 + 1) 0 % 12))], 29, true, 4⟩ ((List.range (i + 1)).flatMap (Sp.bxc xs)) (by kernel_rfl) (by kernel_rfl) (by kernel_rfl) (by kernel_rfl) (by kernel_rfl) (range_len (f := (Sp.bxc xs)) (z := 4) (fun _ => rfl) _) (by omega) (by omega) (range_snoc rfl)) <|
      .a 1 8 <| .nil _ _) ?_
    refine block_normal ?_
    refine then_normal ?_
    refine aw_p1 (
      .p (does_i (((i : Nat) : Int) + 1) (wrap_i64 (by omega) (by omega)) .i64) <| .a 1 8 <| .nil _ _) ?_
    refine then_normal ?_
    refine al_r [(1, 7)] [(0, .slice (some ⟨0, 0, none⟩) xs.length 0), (2, .slice none 0 0), (3, .pointer (some ⟨2, 0, none⟩)), (4, .slice (some ⟨7, 0, none⟩) (i + 1) 0), (12, .int .i64 ((n : Nat) : Int)), (13, .int .i64 (((i + 1) : Nat) : Int))] [(0, ⟨(xs.map i64v), 3, false, 1⟩), (7, ⟨((List.range (i + 1)).flatMap (Sp.bxc xs)), 29, true, 4⟩), (2, ⟨[.slice (some ⟨0, (4 * (i + 1)), none⟩) (xs.length - 4 * (i + 1)) 0], 48, true, 1⟩)] [(0, .slice (some ⟨0, 0, none⟩) xs.length 0), (2, .slice none 0 0), (3, .pointer (some ⟨2, 0, none⟩)), (4, .slice (some ⟨1, 0, none⟩) (i + 1) 0), (12, .int .i64 ((n : Nat) : Int)), (13, .int .i64 (((i + 1) : Nat) : Int))] [(0, ⟨(xs.map i64v), 3, false, 1⟩), (1, ⟨((List.range (i + 1)).flatMap (Sp.bxc xs)), 29, true, 4⟩), (2, ⟨[.slice (some ⟨0, (4 * (i + 1)), none⟩) (xs.length - 4 * (i + 1)) 0], 48, true, 1⟩)] ?_ ⟨rfl, (.slice _ _ _ _ _ rfl), rfl, (.flatB (by kernel_rfl)), rfl, (.ptr _ _ rfl), rfl, (.slice _ _ _ _ _ rfl), rfl, (.flatB (by kernel_rfl)), rfl, (.flatB (by kernel_rfl)), trivial⟩ ⟨rfl, ⟨rfl, rfl, rfl, (.flats (flats_map (fun _ => rfl) _))⟩, rfl, ⟨rfl, rfl, rfl, (.flats (range_flats (fun _ => rfl) _))⟩, rfl, ⟨rfl, rfl, rfl, (.cons (.slice _ _ _ _ _ rfl) .nil)⟩, trivial⟩
    exact ih1 (i + 1) (show (1 ≤ (i + 1) ∧ (i + 1) ≤ n) from by omega) (show n - (i + 1) < n - i from by omega)
  · have h1p : ¬ ((((i : Nat) : Int) < ((n : Nat) : Int))) := by first | (simpa using h1) | (have h1q := h1; simp at h1q; omega) | (have h1q := bx2 h1; simp at h1q; omega)
    have hin : i = n := by omega
    refine aw_ex 0 ?_
    refine then_exit ?_
    refine then_exit ?_
    refine block_exit ?_
    refine then_normal ?_
    refine aw_w [(0, .slice (some ⟨0, 0, none⟩) xs.length 0), (2, .slice none 0 0), (3, .pointer (some ⟨2, 0, none⟩)), (4, .slice (some ⟨1, 0, none⟩) n 0), (12, .int .i64 ((n : Nat) : Int)), (13, .int .i64 ((n : Nat) : Int)), (14, .bool (decide (((n : Nat) : Int) < ((n : Nat) : Int))))] [(0, ⟨(xs.map i64v), 3, false, 1⟩), (1, ⟨((List.range n).flatMap (Sp.bxc xs)), 29, true, 4⟩), (2, ⟨[.slice (some ⟨0, (4 * n), none⟩) (xs.length - 4 * n) 0], 48, true, 1⟩)] ?_ (by subst hin; kernel_rfl) (by subst hin; kernel_rfl) (hc := (by simp [closedB, valsB, valB, List.all_eq_true, List.mem_flatMap, List.mem_range, List.mem_map, i64v, Sp.bxc, flat1]; try (intros; simp [valsB, valB, flat1]); try decide))
    refine aw_p 63 (
      .a 2 5 <| .nil _ _) ?_
    refine aw_rt ?_
    exact en_ret [.slice (some ⟨1, 0, none⟩) n 0] (by kernel_rfl)


end Go.Proofs.Ytmpeiinmbpjjdaa.Am
