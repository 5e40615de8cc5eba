/-
  The walks of points out of numbers.
-/
import Derived.Test.YtadifmimefmcnaaProg
import Derived.Test.YtadifmimefmcnaaAm16
import Derived.Test.YtadifmimefmcnaaPt1
import Derived.Test.YtadifmimefmcnaaHu7
import Derived.Test.YtadifmimefmcnaaAm22
namespace Go.Proofs.Ytadifmimefmcnaa.Am
open Go Go.Proofs
set_option maxRecDepth 100000
set_option maxHeartbeats 4000000
set_option linter.unusedVariables false
set_option linter.unusedSimpArgs false

theorem points_nil (xs : List Int) (n : Nat) (hn : min xs.length 15 = n) (h0 : n = 0) (hx : ∀ i, Sp.In64 (xs.getD i 0)) :
    AC Try.prog 31 1 ([.slice (some ⟨0, 0, none⟩) xs.length 0]) [(0, ⟨(xs.map i64v), 3, false, 1⟩)] (.slice none 0 0) [] := by
  have hmn : Sp.mn ((xs.length : Nat) : Int) 15 = ((n : Nat) : Int) := (by unfold Sp.mn; split <;> omega)
  refine ac_in Try.func31 (fun w0 W pin => ?_)
  refine aw_p 3 (
    .a 1 1 <| .nil _ _) ?_
  refine aw_p 7 (
    .a 1 1 <| .nil _ _) ?_
  refine aw_sq 14 15 ?_
  refine aw_p 29 (
    .a 3 1 <| .p (does_i ((n : Nat) : Int) (hmn) .i64) <|
    .p (does_val (v' := .slice (some ⟨0, 0, none⟩) n 0) (does_slice (t := 22) (x := .tmp 6) (lo := none) (hi := some (.tmp 9)) (k := 0) (off := 0) (n := xs.length) (c := 0) (z := 1) (l := 0) (h := ((n : Nat) : Int)) (m := n) (b := ⟨(xs.map i64v), 3, false, 1⟩) (by kernel_rfl) (by kernel_rfl) (by kernel_rfl) (by kernel_rfl) (by kernel_rfl) (by kernel_rfl) (by kernel_rfl) (by kernel_rfl) (by omega) (by omega) (by omega) (by omega)) (by kernel_rfl)) <|
    .a 2 1 <| .nil _ _) ?_
  refine aw_bl 0 59 ?_
  refine aw_lp 119 ?_
  refine al_round ?_
  refine aw_p 239 (
    .p (does_b false ((show (decide (0 < ((n : Nat) : Int))) = false from decide_eq_false (by omega)))) <| .nil _ _) ?_
  refine aw_sq 478 479 ?_
  refine aw_fl 957 ?_
  refine aw_ex 0 ?_
  refine then_exit ?_
  refine then_exit ?_
  refine block_exit ?_
  refine then_normal ?_
  refine aw_p 31 (
    .a 2 1 <| .nil _ _) ?_
  refine aw_rt ?_
  exact en_ret [.slice none 0 0] (by kernel_rfl)

theorem points_some (xs : List Int) (n : Nat) (hn : min xs.length 15 = n) (h0 : 0 < n) (hx : ∀ i, Sp.In64 (xs.getD i 0)) :
    AC Try.prog 31 1 ([.slice (some ⟨0, 0, none⟩) xs.length 0]) [(0, ⟨(xs.map i64v), 3, false, 1⟩)] (.slice (some ⟨1, 0, none⟩) n 0) [(1, ⟨(((xs.take n).map Sp.smP).flatMap ptc), 29, true, 2⟩)] := by
  have hmn : Sp.mn ((xs.length : Nat) : Int) 15 = ((n : Nat) : Int) := (by unfold Sp.mn; split <;> omega)
  refine ac_in Try.func31 (fun w0 W pin => ?_)
  refine aw_p 3 (
    .a 1 1 <| .nil _ _) ?_
  refine aw_p 7 (
    .a 1 1 <| .nil _ _) ?_
  refine aw_sq 14 15 ?_
  refine aw_p 29 (
    .a 3 1 <| .p (does_i ((n : Nat) : Int) (hmn) .i64) <|
    .p (does_val (v' := .slice (some ⟨0, 0, none⟩) n 0) (does_slice (t := 22) (x := .tmp 6) (lo := none) (hi := some (.tmp 9)) (k := 0) (off := 0) (n := xs.length) (c := 0) (z := 1) (l := 0) (h := ((n : Nat) : Int)) (m := n) (b := ⟨(xs.map i64v), 3, false, 1⟩) (by kernel_rfl) (by kernel_rfl) (by kernel_rfl) (by kernel_rfl) (by kernel_rfl) (by kernel_rfl) (by kernel_rfl) (by kernel_rfl) (by omega) (by omega) (by omega) (by omega)) (by kernel_rfl)) <|
    .a 2 1 <| .nil _ _) ?_
  refine aw_bl 0 59 ?_
  refine aw_lp 119 ?_
  refine al_round ?_
  refine aw_p 239 (
    .p (does_b true ((show (decide (0 < ((n : Nat) : Int))) = true from decide_eq_true (by omega)))) <| .nil _ _) ?_
  refine aw_sq 478 479 ?_
  refine aw_tr 956 ?_
  refine aw_sk ?_
  refine then_normal ?_
  refine aw_sq 958 959 ?_
  refine aw_bl 1 1917 ?_
  refine aw_p 3835 (
    .p (does_indexSlice (t := 22) (x := .tmp 10) (y := .tmp 12) (k := 0) (off := 0) (n := n) (c := 0) (z := 1) (kd := .i64) (j := 0) (by kernel_rfl) (by kernel_rfl) (by kernel_rfl) (by kernel_rfl) (by kernel_rfl) (by omega) (by omega)) <|
    .p (does_load (t := 3) (x := .tmp 14) (k := 0) (off := 0) (b := ⟨(xs.map i64v), 3, false, 1⟩) (v := .int .i64 (xs.getD 0 0)) (by kernel_rfl) (by kernel_rfl) (by kernel_rfl) (by rw [show 0 = 0 from (by omega)]; exact ldV_map (f := i64v) (j := 0) 0 (by kernel_rfl) (by kernel_rfl) (by omega))) <|
    .a 1 1 <| .nil _ _) ?_
  refine aw_p1 (
    .a 2 1 <| .p (does_c (small_ok (xs.getD 0 0) (hx 0))) <| .a 1 1 <| .p (does_ap 2) <| .a 1 3 <| .nil _ _) ?_
  refine block_normal ?_
  refine then_normal ?_
  have hone : (((xs.take (1)).map Sp.smP).flatMap ptc) = [.int .i64 ((xs.getD 0 0) % 81 - 40), .int .i64 (Int.tdiv (xs.getD 0 0) 81 % 81 - 40)] := Sp.sm_one (by omega) rfl
  refine aw_w [(2, .slice none 0 0), (3, .slice (some ⟨2, 0, none⟩) 1 0), (10, .slice (some ⟨0, 0, none⟩) n 0), (11, .int .i64 ((n : Nat) : Int)), (12, .int .i64 0)] [(0, ⟨(xs.map i64v), 3, false, 1⟩), (2, ⟨(((xs.take (1)).map Sp.smP).flatMap ptc), 29, true, 2⟩)] ?_ (by kernel_rfl) (by rw [hone]; kernel_rfl) (hc := (by simp [closedB, valsB, valB, List.all_eq_true, List.mem_flatMap, List.mem_range, List.mem_map, i64v, ptc, i64v, flat1]; try (intros; simp [valsB, valB, flat1]); try decide))
  refine aw_p1 (
    .a 2 3 <| .nil _ _) ?_
  refine then_normal ?_
  refine al_w [(2, .slice none 0 0), (3, .slice (some ⟨2, 0, none⟩) 1 0), (10, .slice (some ⟨0, 0, none⟩) n 0), (11, .int .i64 ((n : Nat) : Int)), (12, .int .i64 ((1 : Nat) : Int))] [(0, ⟨(xs.map i64v), 3, false, 1⟩), (2, ⟨(((xs.take 1).map Sp.smP).flatMap ptc), 29, true, 2⟩)] ?_ (hc := (by simp [closedB, valsB, valB, List.all_eq_true, List.mem_flatMap, List.mem_range, List.mem_map, i64v, ptc, i64v, flat1]; try (intros; simp [valsB, valB, flat1]); try decide))
  refine al_ind (fun i : Nat => (fun (i : Nat) => mkSt 1 [(2, .slice none 0 0), (3, .slice (some ⟨2, 0, none⟩) i 0), (10, .slice (some ⟨0, 0, none⟩) n 0), (11, .int .i64 ((n : Nat) : Int)), (12, .int .i64 ((i : Nat) : Int))] [(0, ⟨(xs.map i64v), 3, false, 1⟩), (2, ⟨(((xs.take i).map Sp.smP).flatMap ptc), 29, true, 2⟩)]) i) (fun i : Nat => (fun (i : Nat) => (1 ≤ i ∧ i ≤ n)) i) (fun i : Nat => (fun (i : Nat) => n - i) i) (fun i hi1 ih1 => ?_) 1 (show (1 ≤ 1 ∧ 1 ≤ n) from by omega)
  obtain ⟨i, hv1⟩ : ∃ z, z = i := ⟨i, rfl⟩; subst hv1
  have hi1' : (1 ≤ i ∧ i ≤ n) := hi1
  have hi : 1 ≤ i ∧ i ≤ n := hi1'
  show AL _ _ _ (mkSt 1 [(2, .slice none 0 0), (3, .slice (some ⟨2, 0, none⟩) i 0), (10, .slice (some ⟨0, 0, none⟩) n 0), (11, .int .i64 ((n : Nat) : Int)), (12, .int .i64 ((i : Nat) : Int))] [(0, ⟨(xs.map i64v), 3, false, 1⟩), (2, ⟨(((xs.take i).map Sp.smP).flatMap ptc), 29, true, 2⟩)]) _
  refine al_round ?_
  refine aw_p 239 (
    .a 1 3 <| .nil _ _) ?_
  refine aw_sq 478 479 ?_
  refine aw_cd 956 957 (decide (((i : Nat) : Int) < ((n : Nat) : Int))) (fun h1 => ?_) (fun h1 => ?_)
  · have h1p : ((((i : Nat) : Int) < ((n : Nat) : Int))) := by first | (simpa using h1) | (have h1q := h1; simp at h1q; omega) | (have h1q := bx1 h1; simp at h1q; omega)
    have hil : i < xs.length := by omega
    refine aw_sk ?_
    refine then_normal ?_
    refine aw_sq 958 959 ?_
    refine aw_bl 1 1917 ?_
    refine aw_p 3835 (
      .p (does_indexSlice (t := 22) (x := .tmp 10) (y := .tmp 12) (k := 0) (off := 0) (n := n) (c := 0) (z := 1) (kd := .i64) (j := ((i : Nat) : Int)) (by kernel_rfl) (by kernel_rfl) (by kernel_rfl) (by kernel_rfl) (by kernel_rfl) (by omega) (by omega)) <|
      .p (does_load (t := 3) (x := .tmp 14) (k := 0) (off := (0 + (((i : Nat) : Int)).toNat * 1)) (b := ⟨(xs.map i64v), 3, false, 1⟩) (v := .int .i64 (xs.getD i 0)) (by kernel_rfl) (by kernel_rfl) (by kernel_rfl) (by rw [show (0 + (((i : Nat) : Int)).toNat * 1) = i from (by omega)]; exact ldV_map (f := i64v) (j := i) 0 (by kernel_rfl) (by kernel_rfl) (by omega))) <|
      .a 1 3 <| .nil _ _) ?_
    refine aw_p1 (
      .a 2 3 <| .p (does_c (small_ok (xs.getD i 0) (hx i))) <| .a 1 3 <|
      .p (does_apy 4 29 2 16 2 i 3 1 ⟨(((xs.take i).map Sp.smP).flatMap ptc), 29, true, 2⟩ ⟨[.int .i64 ((xs.getD i 0) % 81 - 40), .int .i64 (Int.tdiv (xs.getD i 0) 81 % 81 - 40)], 29, true, 2⟩ (((xs.take (i + 1)).map Sp.smP).flatMap ptc) (by kernel_rfl) (by kernel_rfl) (by kernel_rfl) (by kernel_rfl) (by kernel_rfl) (by show ((((xs.take i).map Sp.smP).flatMap ptc)).length = _; rw [pairs_length]; simp; omega) (by omega) (by omega) (Sp.sm_snoc hil rfl)) <|
      .a 1 5 <| .nil _ _) ?_
    refine block_normal ?_
    refine then_normal ?_
    refine aw_p1 (
      .p (does_i (((i : Nat) : Int) + 1) (wrap_i64 (by omega) (by omega)) .i64) <| .a 1 5 <| .nil _ _) ?_
    refine then_normal ?_
    refine al_r [(2, 4)] [(2, .slice none 0 0), (3, .slice (some ⟨4, 0, none⟩) (i + 1) 0), (10, .slice (some ⟨0, 0, none⟩) n 0), (11, .int .i64 ((n : Nat) : Int)), (12, .int .i64 (((i + 1) : Nat) : Int))] [(0, ⟨(xs.map i64v), 3, false, 1⟩), (4, ⟨(((xs.take (i + 1)).map Sp.smP).flatMap ptc), 29, true, 2⟩)] [(2, .slice none 0 0), (3, .slice (some ⟨2, 0, none⟩) (i + 1) 0), (10, .slice (some ⟨0, 0, none⟩) n 0), (11, .int .i64 ((n : Nat) : Int)), (12, .int .i64 (((i + 1) : Nat) : Int))] [(0, ⟨(xs.map i64v), 3, false, 1⟩), (2, ⟨(((xs.take (i + 1)).map Sp.smP).flatMap ptc), 29, true, 2⟩)] ?_ ⟨rfl, (.flatB (by kernel_rfl)), rfl, (.slice _ _ _ _ _ rfl), rfl, (.slice _ _ _ _ _ rfl), rfl, (.flatB (by kernel_rfl)), rfl, (.flatB (by kernel_rfl)), trivial⟩ ⟨rfl, ⟨rfl, rfl, rfl, (.flats (flats_map (fun _ => rfl) _))⟩, rfl, ⟨rfl, rfl, rfl, (.flats (flats_pair _))⟩, trivial⟩
    exact ih1 (i + 1) (show (1 ≤ (i + 1) ∧ (i + 1) ≤ n) from by omega) (show n - (i + 1) < n - i from by omega)
  · have h1p : ¬ ((((i : Nat) : Int) < ((n : Nat) : Int))) := by first | (simpa using h1) | (have h1q := h1; simp at h1q; omega) | (have h1q := bx2 h1; simp at h1q; omega)
    have hin : i = n := by omega
    refine aw_ex 0 ?_
    refine then_exit ?_
    refine then_exit ?_
    refine block_exit ?_
    refine then_normal ?_
    refine aw_w [(2, .slice none 0 0), (3, .slice (some ⟨2, 0, none⟩) n 0)] [(0, ⟨(xs.map i64v), 3, false, 1⟩), (2, ⟨(((xs.take n).map Sp.smP).flatMap ptc), 29, true, 2⟩)] ?_ (by subst hin; kernel_rfl) (by subst hin; kernel_rfl) (hc := (by simp [closedB, valsB, valB, List.all_eq_true, List.mem_flatMap, List.mem_range, List.mem_map, i64v, ptc, i64v, flat1]; try (intros; simp [valsB, valB, flat1]); try decide))
    refine aw_p 31 (
      .a 2 3 <| .nil _ _) ?_
    refine aw_r [(1, 2)] [(2, .slice (some ⟨2, 0, none⟩) n 0)] [(0, ⟨(xs.map i64v), 3, false, 1⟩), (2, ⟨(((xs.take n).map Sp.smP).flatMap ptc), 29, true, 2⟩)] [(2, .slice (some ⟨1, 0, none⟩) n 0)] [(0, ⟨(xs.map i64v), 3, false, 1⟩), (1, ⟨(((xs.take n).map Sp.smP).flatMap ptc), 29, true, 2⟩)] ?_ ⟨rfl, (.slice _ _ _ _ _ rfl), trivial⟩ ⟨rfl, ⟨rfl, rfl, rfl, (.flats (flats_map (fun _ => rfl) _))⟩, rfl, ⟨rfl, rfl, rfl, (.flats (flats_pair _))⟩, trivial⟩
    refine aw_rt ?_
    exact en_ret [.slice (some ⟨1, 0, none⟩) n 0] (by kernel_rfl)


end Go.Proofs.Ytadifmimefmcnaa.Am
