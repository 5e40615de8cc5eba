/-
  The walks of a chain of points.
-/
import Derived.Test.YtadifmimefmcnaaProg
import Derived.Test.YtadifmimefmcnaaAm16
import Derived.Test.YtadifmimefmcnaaPt1
import Derived.Test.YtadifmimefmcnaaAm25
import Derived.Test.YtadifmimefmcnaaHu5
namespace Go.Proofs.Ytadifmimefmcnaa.Am
open Go Go.Proofs
set_option maxRecDepth 100000
set_option maxHeartbeats 4000000
set_option linter.unusedVariables false
set_option linter.unusedSimpArgs false

theorem chain_nil (ps : List (Int × Int))  (hl : Sp.Few 1048576 ps) (hps : 1 ≤ ps.length) (hz : ps.length ≤ 8796093021952) :
    AC Try.prog 84 1 ([.slice none 0 0, .slice (some ⟨0, 0, none⟩) ps.length 0]) [(0, ⟨(ps.flatMap ptc), 29, true, 2⟩)] (.slice (some ⟨1, 0, none⟩) ((Sp.chO ps).length) 0) [(0, ⟨(ps.flatMap ptc), 29, true, 2⟩), (1, ⟨((Sp.chO ps).flatMap ptc), 29, true, 2⟩)] := by
  have hsp := Sp.stk_pos (l := ps) hps; have hsl := Sp.stk_len ps ps.length; have hnop : Sp.nop.length = 0 := rfl; have hb : Sp.Few 1048576 Sp.nop := (fun i => by simp [Sp.nop])
  refine ac_in Try.func84 (fun w0 W pin => ?_)
  refine aw_p 3 (
    .a 1 2 <| .nil _ _) ?_
  refine aw_p 7 (
    .a 3 2 <| .nil _ _) ?_
  refine aw_sq 14 15 ?_
  refine aw_p 29 (
    .a 3 2 <| .nil _ _) ?_
  refine aw_bl 0 59 ?_
  refine aw_lp 119 ?_
  refine al_round ?_
  refine aw_p 239 (
    .p (does_b true ((show (decide (0 < ((ps.length : Nat) : Int))) = true from decide_eq_true (by omega)))) <| .nil _ _) ?_
  refine aw_sq 478 479 ?_
  refine aw_tr 956 ?_
  refine aw_sk ?_
  refine then_normal ?_
  refine aw_sq 958 959 ?_
  refine aw_bl 1 1917 ?_
  refine aw_p 3835 (
    .p (does_indexSlice (t := 24) (x := .tmp 10) (y := .tmp 12) (k := 0) (off := 0) (n := ps.length) (c := 0) (z := 2) (kd := .i64) (j := 0) (by kernel_rfl) (by kernel_rfl) (by kernel_rfl) (by kernel_rfl) (by kernel_rfl) (by omega) (by omega)) <|
    .p (does_load (t := 29) (x := .tmp 14) (k := 0) (off := 0) (b := ⟨(ps.flatMap ptc), 29, true, 2⟩) (v := .agg #[.int .i64 ((ps.getD 0 (0, 0)).1), .int .i64 ((ps.getD 0 (0, 0)).2)]) (by kernel_rfl) (by kernel_rfl) (by kernel_rfl) (ldV_pair (j := 0) (by kernel_rfl) (by kernel_rfl) (by omega) (by first | omega | (simp only [List.length_append, List.length_reverse]; omega)))) <|
    .a 2 2 <| .nil _ _) ?_
  refine aw_sq 7670 7671 ?_
  refine aw_bl 2 15341 ?_
  refine aw_lp 30683 ?_
  refine al_round ?_
  refine aw_sq 61366 61367 ?_
  refine aw_d 122733 (
    .a 22 3 <| .nil _ _) ?_
  refine aw_fl 245467 ?_
  refine aw_ex 2 ?_
  refine then_exit ?_
  refine then_exit ?_
  refine block_exit ?_
  refine then_normal ?_
  refine aw_p1 (
    .a 3 3 <| .p (does_ap 4) <| .a 1 5 <| .nil _ _) ?_
  refine block_normal ?_
  refine then_normal ?_
  refine aw_w [(0, .slice (some ⟨4, 0, none⟩) 1 0), (4, .slice none 0 0), (5, .int .i64 0), (7, .pointer (some ⟨2, 0, none⟩)), (10, .slice (some ⟨0, 0, none⟩) ps.length 0), (11, .int .i64 ((ps.length : Nat) : Int)), (12, .int .i64 0), (13, .bool true), (37, .bool false)] [(0, ⟨(ps.flatMap ptc), 29, true, 2⟩), (2, ⟨[.int .i64 ((ps.getD 0 (0, 0)).1), .int .i64 ((ps.getD 0 (0, 0)).2)], 29, true, 2⟩), (4, ⟨[.int .i64 ((ps.getD 0 (0, 0)).1), .int .i64 ((ps.getD 0 (0, 0)).2)], 29, true, 2⟩)] ?_ (by ((try rw [Sp.stk_len_next _ hpc hst])); kernel_rfl) (by ((try rw [Sp.stk_len_next _ hpc hst])); kernel_rfl) (hc := (by simp [closedB, valsB, valB, List.all_eq_true, List.mem_flatMap, List.mem_range, List.mem_map, i64v, ptc, flat1]; try (intros; simp [valsB, valB, flat1]); try decide))
  refine aw_p1 (
    .a 2 5 <| .nil _ _) ?_
  refine then_normal ?_
  refine al_w [(0, .slice (some ⟨4, 0, none⟩) (Sp.nop.length + (Sp.stk ps 1).length) 0), (4, .slice none 0 0), (5, .int .i64 0), (10, .slice (some ⟨0, 0, none⟩) ps.length 0), (11, .int .i64 ((ps.length : Nat) : Int)), (12, .int .i64 ((1 : Nat) : Int))] [(0, ⟨(ps.flatMap ptc), 29, true, 2⟩), (4, ⟨((Sp.nop ++ (Sp.stk ps 1).reverse).flatMap ptc), 29, true, 2⟩)] ?_ (hc := (by simp [closedB, valsB, valB, List.all_eq_true, List.mem_flatMap, List.mem_range, List.mem_map, i64v, ptc, flat1]; try (intros; simp [valsB, valB, flat1]); try decide))
  refine al_ind (fun i : Nat => (fun (u : Nat) => mkSt 1 [(0, .slice (some ⟨4, 0, none⟩) (Sp.nop.length + (Sp.stk ps u).length) 0), (4, .slice none 0 0), (5, .int .i64 0), (10, .slice (some ⟨0, 0, none⟩) ps.length 0), (11, .int .i64 ((ps.length : Nat) : Int)), (12, .int .i64 ((u : Nat) : Int))] [(0, ⟨(ps.flatMap ptc), 29, true, 2⟩), (4, ⟨((Sp.nop ++ (Sp.stk ps u).reverse).flatMap ptc), 29, true, 2⟩)]) i) (fun i : Nat => (fun (u : Nat) => (1 ≤ u ∧ u ≤ ps.length)) i) (fun i : Nat => (fun (u : Nat) => ps.length - u) i) (fun i hi1 ih1 => ?_) 1 (show (1 ≤ 1 ∧ 1 ≤ ps.length) from by omega)
  obtain ⟨u, hv1⟩ : ∃ z, z = i := ⟨i, rfl⟩; subst hv1
  have hi1' : (1 ≤ u ∧ u ≤ ps.length) := hi1
  have hi : 1 ≤ u ∧ u ≤ ps.length := hi1'
  show AL _ _ _ (mkSt 1 [(0, .slice (some ⟨4, 0, none⟩) (Sp.nop.length + (Sp.stk ps u).length) 0), (4, .slice none 0 0), (5, .int .i64 0), (10, .slice (some ⟨0, 0, none⟩) ps.length 0), (11, .int .i64 ((ps.length : Nat) : Int)), (12, .int .i64 ((u : Nat) : Int))] [(0, ⟨(ps.flatMap ptc), 29, true, 2⟩), (4, ⟨((Sp.nop ++ (Sp.stk ps u).reverse).flatMap ptc), 29, true, 2⟩)]) _
  have hsi := Sp.stk_len ps u
  refine al_round ?_
  refine aw_p 239 (
    .a 1 5 <| .nil _ _) ?_
  refine aw_sq 478 479 ?_
  refine aw_cd 956 957 (decide (((u : Nat) : Int) < ((ps.length : Nat) : Int))) (fun h1 => ?_) (fun h1 => ?_)
  · have h1p : ((((u : Nat) : Int) < ((ps.length : Nat) : Int))) := by first | (simpa using h1) | (have h1q := h1; simp at h1q; omega) | (have h1q := bx1 h1; simp at h1q; omega)
    refine aw_sk ?_
    refine then_normal ?_
    refine aw_sq 958 959 ?_
    refine aw_bl 1 1917 ?_
    refine aw_p 3835 (
      .p (does_indexSlice (t := 24) (x := .tmp 10) (y := .tmp 12) (k := 0) (off := 0) (n := ps.length) (c := 0) (z := 2) (kd := .i64) (j := ((u : Nat) : Int)) (by kernel_rfl) (by kernel_rfl) (by kernel_rfl) (by kernel_rfl) (by kernel_rfl) (by omega) (by omega)) <|
      .p (does_load (t := 29) (x := .tmp 14) (k := 0) (off := (0 + (((u : Nat) : Int)).toNat * 2)) (b := ⟨(ps.flatMap ptc), 29, true, 2⟩) (v := .agg #[.int .i64 ((ps.getD u (0, 0)).1), .int .i64 ((ps.getD u (0, 0)).2)]) (by kernel_rfl) (by kernel_rfl) (by kernel_rfl) (ldV_pair (j := u) (by kernel_rfl) (by kernel_rfl) (by omega) (by first | omega | (simp only [List.length_append, List.length_reverse]; omega)))) <|
      .a 2 5 <| .nil _ _) ?_
    refine aw_sq 7670 7671 ?_
    refine aw_bl 2 15341 ?_
    refine aw_lp 30683 ?_
    refine al_w [(0, .slice (some ⟨4, 0, none⟩) (Sp.nop.length + (Sp.stk ps u).length) 0), (4, .slice none 0 0), (5, .int .i64 0), (7, .pointer (some ⟨5, 0, none⟩)), (10, .slice (some ⟨0, 0, none⟩) ps.length 0), (11, .int .i64 ((ps.length : Nat) : Int)), (12, .int .i64 ((u : Nat) : Int))] [(0, ⟨(ps.flatMap ptc), 29, true, 2⟩), (4, ⟨((Sp.nop ++ (Sp.stk ps u).reverse).flatMap ptc), 29, true, 2⟩), (5, ⟨[.int .i64 ((ps.getD u (0, 0)).1), .int .i64 ((ps.getD u (0, 0)).2)], 29, true, 2⟩)] ?_ (hc := (by simp [closedB, valsB, valB, List.all_eq_true, List.mem_flatMap, List.mem_range, List.mem_map, i64v, ptc, flat1]; try (intros; simp [valsB, valB, flat1]); try decide))
    refine al_ind (fun i : List (Int × Int) => (fun (c : List (Int × Int)) => mkSt 1 [(0, .slice (some ⟨4, 0, none⟩) (Sp.nop.length + c.length) 0), (4, .slice none 0 0), (5, .int .i64 0), (7, .pointer (some ⟨5, 0, none⟩)), (10, .slice (some ⟨0, 0, none⟩) ps.length 0), (11, .int .i64 ((ps.length : Nat) : Int)), (12, .int .i64 ((u : Nat) : Int))] [(0, ⟨(ps.flatMap ptc), 29, true, 2⟩), (4, ⟨((Sp.nop ++ c.reverse).flatMap ptc), 29, true, 2⟩), (5, ⟨[.int .i64 ((ps.getD u (0, 0)).1), .int .i64 ((ps.getD u (0, 0)).2)], 29, true, 2⟩)]) i) (fun i : List (Int × Int) => (fun (c : List (Int × Int)) => (Sp.popC (ps.getD u (0, 0)) c = Sp.popC (ps.getD u (0, 0)) (Sp.stk ps u)) ∧ (∀ p ∈ c, p ∈ ps) ∧ (c.length ≤ (Sp.stk ps u).length)) i) (fun i : List (Int × Int) => (fun (c : List (Int × Int)) => c.length) i) (fun i hi2 ih2 => ?_) (Sp.stk ps u) (show (Sp.popC (ps.getD u (0, 0)) (Sp.stk ps u) = Sp.popC (ps.getD u (0, 0)) (Sp.stk ps u)) ∧ (∀ p ∈ (Sp.stk ps u), p ∈ ps) ∧ ((Sp.stk ps u).length ≤ (Sp.stk ps u).length) from ⟨by rfl, by exact fun p hp => Sp.stk_mem (by omega) hp, by exact Nat.le_refl _⟩)
    obtain ⟨c, hv2⟩ : ∃ z, z = i := ⟨i, rfl⟩; subst hv2
    have hi2' : (Sp.popC (ps.getD u (0, 0)) c = Sp.popC (ps.getD u (0, 0)) (Sp.stk ps u)) ∧ (∀ p ∈ c, p ∈ ps) ∧ (c.length ≤ (Sp.stk ps u).length) := hi2
    obtain ⟨hpc, hcl, hcb⟩ := hi2'
    show AL _ _ _ (mkSt 1 [(0, .slice (some ⟨4, 0, none⟩) (Sp.nop.length + c.length) 0), (4, .slice none 0 0), (5, .int .i64 0), (7, .pointer (some ⟨5, 0, none⟩)), (10, .slice (some ⟨0, 0, none⟩) ps.length 0), (11, .int .i64 ((ps.length : Nat) : Int)), (12, .int .i64 ((u : Nat) : Int))] [(0, ⟨(ps.flatMap ptc), 29, true, 2⟩), (4, ⟨((Sp.nop ++ c.reverse).flatMap ptc), 29, true, 2⟩), (5, ⟨[.int .i64 ((ps.getD u (0, 0)).1), .int .i64 ((ps.getD u (0, 0)).2)], 29, true, 2⟩)]) _
    have hfc := Sp.few_stk (by decide) hb hl hcl; have hfq := hl u
    refine al_round ?_
    refine aw_sq 61366 61367 ?_
    rcases Bool.eq_false_or_eq_true (decide ((((Sp.nop.length + c.length) : Nat) : Int) > 1)) with h2 | h2
    · have h2p : (((((Sp.nop.length + c.length) : Nat) : Int) > 1)) := by first | (simpa using h2) | (have h2q := h2; simp at h2q; omega) | (have h2q := bx1 h2; simp at h2q; omega)
      have hc2 : 2 ≤ c.length := by omega
      have fa := hfc ((Sp.nop.length + c.length) - 2); have fb := hfc ((Sp.nop.length + c.length) - 1)
      refine aw_d 122733 (
        .a 4 6 <| .p (does_b true (h2)) <| .a 4 6 <| .p (does_i (((Sp.nop.length + c.length) - 2 : Nat) : Int) ((show (IntKind.wrap .i64 ((((Sp.nop.length + c.length) : Nat) : Int) - 2)) = (((Sp.nop.length + c.length) - 2 : Nat) : Int) from ((wrap_i64 (by omega) (by omega)).trans (by omega)))) .i64) <|
        .p (does_indexSlice (t := 24) (x := .tmp 22) (y := .tmp 25) (k := 4) (off := 0) (n := (Sp.nop.length + c.length)) (c := 0) (z := 2) (kd := .i64) (j := (((Sp.nop.length + c.length) - 2 : Nat) : Int)) (by kernel_rfl) (by kernel_rfl) (by kernel_rfl) (by kernel_rfl) (by kernel_rfl) (by omega) (by omega)) <|
        .p (does_load (t := 29) (x := .tmp 26) (k := 4) (off := (0 + ((((Sp.nop.length + c.length) - 2 : Nat) : Int)).toNat * 2)) (b := ⟨((Sp.nop ++ c.reverse).flatMap ptc), 29, true, 2⟩) (v := .agg #[.int .i64 (((Sp.nop ++ c.reverse).getD ((Sp.nop.length + c.length) - 2) (0, 0)).1), .int .i64 (((Sp.nop ++ c.reverse).getD ((Sp.nop.length + c.length) - 2) (0, 0)).2)]) (by kernel_rfl) (by kernel_rfl) (by kernel_rfl) (ldV_pair (j := ((Sp.nop.length + c.length) - 2)) (by kernel_rfl) (by kernel_rfl) (by omega) (by first | omega | (simp only [List.length_append, List.length_reverse]; omega)))) <|
        .a 3 6 <| .p (does_i (((Sp.nop.length + c.length) - 1 : Nat) : Int) ((show (IntKind.wrap .i64 ((((Sp.nop.length + c.length) : Nat) : Int) - 1)) = (((Sp.nop.length + c.length) - 1 : Nat) : Int) from ((wrap_i64 (by omega) (by omega)).trans (by omega)))) .i64) <|
        .p (does_indexSlice (t := 24) (x := .tmp 28) (y := .tmp 31) (k := 4) (off := 0) (n := (Sp.nop.length + c.length)) (c := 0) (z := 2) (kd := .i64) (j := (((Sp.nop.length + c.length) - 1 : Nat) : Int)) (by kernel_rfl) (by kernel_rfl) (by kernel_rfl) (by kernel_rfl) (by kernel_rfl) (by omega) (by omega)) <|
        .p (does_load (t := 29) (x := .tmp 32) (k := 4) (off := (0 + ((((Sp.nop.length + c.length) - 1 : Nat) : Int)).toNat * 2)) (b := ⟨((Sp.nop ++ c.reverse).flatMap ptc), 29, true, 2⟩) (v := .agg #[.int .i64 (((Sp.nop ++ c.reverse).getD ((Sp.nop.length + c.length) - 1) (0, 0)).1), .int .i64 (((Sp.nop ++ c.reverse).getD ((Sp.nop.length + c.length) - 1) (0, 0)).2)]) (by kernel_rfl) (by kernel_rfl) (by kernel_rfl) (ldV_pair (j := ((Sp.nop.length + c.length) - 1)) (by kernel_rfl) (by kernel_rfl) (by omega) (by first | omega | (simp only [List.length_append, List.length_reverse]; omega)))) <|
        .a 1 6 <|
        .p (does_c (turn_in (((Sp.nop ++ c.reverse).getD ((Sp.nop.length + c.length) - 2) (0, 0)).1) (((Sp.nop ++ c.reverse).getD ((Sp.nop.length + c.length) - 2) (0, 0)).2) (((Sp.nop ++ c.reverse).getD ((Sp.nop.length + c.length) - 1) (0, 0)).1) (((Sp.nop ++ c.reverse).getD ((Sp.nop.length + c.length) - 1) (0, 0)).2) ((ps.getD u (0, 0)).1) ((ps.getD u (0, 0)).2) (by omega) (by omega) (by omega) (by omega) (by omega) (by omega) (by omega) (by omega) (by omega) (by omega) (by omega) (by omega))) <|
        .p (does_b (Sp.popB (Sp.nop ++ c.reverse) (Sp.nop.length + c.length) (ps.getD u (0, 0)).1 (ps.getD u (0, 0)).2) (Sp.popB_dec _ _ _ _)) <| .a 1 6 <| .nil _ _) ?_
      refine aw_cd 245466 245467 (Sp.popB (Sp.nop ++ c.reverse) (Sp.nop.length + c.length) (ps.getD u (0, 0)).1 (ps.getD u (0, 0)).2) (fun h3 => ?_) (fun h3 => ?_)
      · refine aw_sk ?_
        refine then_normal ?_
        refine aw_bl 3 122735 ?_
        refine aw_p1 (
          .a 3 6 <| .p (does_i (((Sp.nop.length + c.length) - 1 : Nat) : Int) ((show (IntKind.wrap .i64 ((((Sp.nop.length + c.length) : Nat) : Int) - 1)) = (((Sp.nop.length + c.length) - 1 : Nat) : Int) from ((wrap_i64 (by omega) (by omega)).trans (by omega)))) .i64) <|
          .p (does_val (v' := .slice (some ⟨4, 0, none⟩) ((Sp.nop.length + c.length) - 1) 0) (does_slice (t := 24) (x := .tmp 38) (lo := none) (hi := some (.tmp 41)) (k := 4) (off := 0) (n := (Sp.nop.length + c.length)) (c := 0) (z := 2) (l := 0) (h := (((Sp.nop.length + c.length) - 1 : Nat) : Int)) (m := ((Sp.nop.length + c.length) - 1)) (b := ⟨((Sp.nop ++ c.reverse).flatMap ptc), 29, true, 2⟩) (by kernel_rfl) (by kernel_rfl) (by kernel_rfl) (by kernel_rfl) (by kernel_rfl) (by kernel_rfl) (by kernel_rfl) (by kernel_rfl) (by omega) (by omega) (by omega) (by omega)) (by kernel_rfl)) <|
          .a 1 6 <| .nil _ _) ?_
        refine block_normal ?_
        refine then_normal ?_
        refine al_shrink 4 ⟨((Sp.nop ++ c.reverse).flatMap ptc), 29, true, 2⟩ ((Sp.nop ++ c.tail.reverse).flatMap ptc) (2 * ((Sp.nop.length + c.length) - 1)) ?_ (Sp.pop_take (bs := Sp.nop) (by omega))
        refine al_w [(0, .slice (some ⟨4, 0, none⟩) (Sp.nop.length + c.tail.length) 0), (4, .slice none 0 0), (5, .int .i64 0), (7, .pointer (some ⟨5, 0, none⟩)), (10, .slice (some ⟨0, 0, none⟩) ps.length 0), (11, .int .i64 ((ps.length : Nat) : Int)), (12, .int .i64 ((u : Nat) : Int))] [(0, ⟨(ps.flatMap ptc), 29, true, 2⟩), (4, ⟨((Sp.nop ++ c.tail.reverse).flatMap ptc), 29, true, 2⟩), (5, ⟨[.int .i64 ((ps.getD u (0, 0)).1), .int .i64 ((ps.getD u (0, 0)).2)], 29, true, 2⟩)] ?_ (by (rw [show (Sp.nop.length + c.tail.length) = (Sp.nop.length + c.length) - 1 from (by rw [List.length_tail]; omega)]); kernel_rfl) (by kernel_rfl) (hc := (by simp [closedB, valsB, valB, List.all_eq_true, List.mem_flatMap, List.mem_range, List.mem_map, i64v, ptc, flat1]; try (intros; simp [valsB, valB, flat1]); try decide))
        refine al_w [(0, .slice (some ⟨4, 0, none⟩) (Sp.nop.length + c.tail.length) 0), (4, .slice none 0 0), (5, .int .i64 0), (7, .pointer (some ⟨5, 0, none⟩)), (10, .slice (some ⟨0, 0, none⟩) ps.length 0), (11, .int .i64 ((ps.length : Nat) : Int)), (12, .int .i64 ((u : Nat) : Int))] [(0, ⟨(ps.flatMap ptc), 29, true, 2⟩), (4, ⟨((Sp.nop ++ c.tail.reverse).flatMap ptc), 29, true, 2⟩), (5, ⟨[.int .i64 ((ps.getD u (0, 0)).1), .int .i64 ((ps.getD u (0, 0)).2)], 29, true, 2⟩)] ?_ (hc := (by simp [closedB, valsB, valB, List.all_eq_true, List.mem_flatMap, List.mem_range, List.mem_map, i64v, ptc, flat1]; try (intros; simp [valsB, valB, flat1]); try decide))
        exact ih2 c.tail (show (Sp.popC (ps.getD u (0, 0)) c.tail = Sp.popC (ps.getD u (0, 0)) (Sp.stk ps u)) ∧ (∀ p ∈ c.tail, p ∈ ps) ∧ (c.tail.length ≤ (Sp.stk ps u).length) from ⟨by (rw [← hpc]; exact Sp.popC_yes (bs := Sp.nop) hc2 (by assumption)), by exact fun p hp => hcl p (List.mem_of_mem_tail hp), by (rw [List.length_tail]; omega)⟩) (show c.tail.length < c.length from by (rw [List.length_tail]; omega))
      · have hst := Sp.popC_no (bs := Sp.nop) (q := (ps.getD u (0, 0))) hc2 h3
        refine aw_ex 2 ?_
        refine then_exit ?_
        refine then_exit ?_
        refine block_exit ?_
        refine then_normal ?_
        refine aw_p1 (
          .a 3 6 <|
          .p (does_apy 7 29 2 16 4 (Sp.nop.length + c.length) 6 1 ⟨((Sp.nop ++ c.reverse).flatMap ptc), 29, true, 2⟩ ⟨[.int .i64 ((ps.getD u (0, 0)).1), .int .i64 ((ps.getD u (0, 0)).2)], 29, true, 2⟩ ((Sp.nop ++ (Sp.stk ps (u + 1)).reverse).flatMap ptc) (by kernel_rfl) (by kernel_rfl) (by kernel_rfl) (by kernel_rfl) (by kernel_rfl) (by show (((Sp.nop ++ c.reverse).flatMap ptc)).length = _; rw [pairs_length, List.length_append, List.length_reverse]; omega) (by omega) (by omega) (Sp.stk_snoc hpc hst)) <|
          .a 1 8 <| .nil _ _) ?_
        refine block_normal ?_
        refine then_normal ?_
        refine aw_w [(0, .slice (some ⟨7, 0, none⟩) (Sp.nop.length + (Sp.stk ps (u + 1)).length) 0), (4, .slice none 0 0), (5, .int .i64 0), (7, .pointer (some ⟨5, 0, none⟩)), (10, .slice (some ⟨0, 0, none⟩) ps.length 0), (11, .int .i64 ((ps.length : Nat) : Int)), (12, .int .i64 ((u : Nat) : Int)), (37, .bool (Sp.popB (Sp.nop ++ c.reverse) (Sp.nop.length + c.length) (ps.getD u (0, 0)).1 (ps.getD u (0, 0)).2))] [(0, ⟨(ps.flatMap ptc), 29, true, 2⟩), (5, ⟨[.int .i64 ((ps.getD u (0, 0)).1), .int .i64 ((ps.getD u (0, 0)).2)], 29, true, 2⟩), (7, ⟨((Sp.nop ++ (Sp.stk ps (u + 1)).reverse).flatMap ptc), 29, true, 2⟩)] ?_ (by ((try rw [Sp.stk_len_next _ hpc hst])); kernel_rfl) (by ((try rw [Sp.stk_len_next _ hpc hst])); kernel_rfl) (hc := (by simp [closedB, valsB, valB, List.all_eq_true, List.mem_flatMap, List.mem_range, List.mem_map, i64v, ptc, flat1]; try (intros; simp [valsB, valB, flat1]); try decide))
        refine aw_p1 (
          .p (does_i (((u : Nat) : Int) + 1) (wrap_i64 (by omega) (by omega)) .i64) <| .a 1 8 <| .nil _ _) ?_
        refine then_normal ?_
        refine al_r [(4, 7)] [(0, .slice (some ⟨7, 0, none⟩) (Sp.nop.length + (Sp.stk ps (u + 1)).length) 0), (4, .slice none 0 0), (5, .int .i64 0), (10, .slice (some ⟨0, 0, none⟩) ps.length 0), (11, .int .i64 ((ps.length : Nat) : Int)), (12, .int .i64 (((u + 1) : Nat) : Int))] [(0, ⟨(ps.flatMap ptc), 29, true, 2⟩), (7, ⟨((Sp.nop ++ (Sp.stk ps (u + 1)).reverse).flatMap ptc), 29, true, 2⟩)] [(0, .slice (some ⟨4, 0, none⟩) (Sp.nop.length + (Sp.stk ps (u + 1)).length) 0), (4, .slice none 0 0), (5, .int .i64 0), (10, .slice (some ⟨0, 0, none⟩) ps.length 0), (11, .int .i64 ((ps.length : Nat) : Int)), (12, .int .i64 (((u + 1) : Nat) : Int))] [(0, ⟨(ps.flatMap ptc), 29, true, 2⟩), (4, ⟨((Sp.nop ++ (Sp.stk ps (u + 1)).reverse).flatMap ptc), 29, true, 2⟩)] ?_ ⟨rfl, (.slice _ _ _ _ _ rfl), rfl, (.flatB (by kernel_rfl)), rfl, (.flatB (by kernel_rfl)), rfl, (.slice _ _ _ _ _ rfl), rfl, (.flatB (by kernel_rfl)), rfl, (.flatB (by kernel_rfl)), trivial⟩ ⟨rfl, ⟨rfl, rfl, rfl, (.flats (flats_pair _))⟩, rfl, ⟨rfl, rfl, rfl, (.flats (flats_pair _))⟩, trivial⟩
        exact ih1 (u + 1) (show (1 ≤ (u + 1) ∧ (u + 1) ≤ ps.length) from by omega) (show ps.length - (u + 1) < ps.length - u from by omega)
    · have h2p : ¬ (((((Sp.nop.length + c.length) : Nat) : Int) > 1)) := by first | (simpa using h2) | (have h2q := h2; simp at h2q; omega) | (have h2q := bx2 h2; simp at h2q; omega)
      have hst := Sp.popC_short (q := (ps.getD u (0, 0))) (c := c) (by omega)
      refine aw_d 122733 (
        .a 4 6 <| .p (does_b false (h2)) <| .a 17 6 <| .nil _ _) ?_
      refine aw_fl 245467 ?_
      refine aw_ex 2 ?_
      refine then_exit ?_
      refine then_exit ?_
      refine block_exit ?_
      refine then_normal ?_
      refine aw_p1 (
        .a 3 6 <|
        .p (does_apy 7 29 2 16 4 (Sp.nop.length + c.length) 6 1 ⟨((Sp.nop ++ c.reverse).flatMap ptc), 29, true, 2⟩ ⟨[.int .i64 ((ps.getD u (0, 0)).1), .int .i64 ((ps.getD u (0, 0)).2)], 29, true, 2⟩ ((Sp.nop ++ (Sp.stk ps (u + 1)).reverse).flatMap ptc) (by kernel_rfl) (by kernel_rfl) (by kernel_rfl) (by kernel_rfl) (by kernel_rfl) (by show (((Sp.nop ++ c.reverse).flatMap ptc)).length = _; rw [pairs_length, List.length_append, List.length_reverse]; omega) (by omega) (by omega) (Sp.stk_snoc hpc hst)) <|
        .a 1 8 <| .nil _ _) ?_
      refine block_normal ?_
      refine then_normal ?_
      refine aw_w [(0, .slice (some ⟨7, 0, none⟩) (Sp.nop.length + (Sp.stk ps (u + 1)).length) 0), (4, .slice none 0 0), (5, .int .i64 0), (7, .pointer (some ⟨5, 0, none⟩)), (10, .slice (some ⟨0, 0, none⟩) ps.length 0), (11, .int .i64 ((ps.length : Nat) : Int)), (12, .int .i64 ((u : Nat) : Int)), (37, .bool false)] [(0, ⟨(ps.flatMap ptc), 29, true, 2⟩), (5, ⟨[.int .i64 ((ps.getD u (0, 0)).1), .int .i64 ((ps.getD u (0, 0)).2)], 29, true, 2⟩), (7, ⟨((Sp.nop ++ (Sp.stk ps (u + 1)).reverse).flatMap ptc), 29, true, 2⟩)] ?_ (by ((try rw [Sp.stk_len_next _ hpc hst])); kernel_rfl) (by ((try rw [Sp.stk_len_next _ hpc hst])); kernel_rfl) (hc := (by simp [closedB, valsB, valB, List.all_eq_true, List.mem_flatMap, List.mem_range, List.mem_map, i64v, ptc, flat1]; try (intros; simp [valsB, valB, flat1]); try decide))
      refine aw_p1 (
        .p (does_i (((u : Nat) : Int) + 1) (wrap_i64 (by omega) (by omega)) .i64) <| .a 1 8 <| .nil _ _) ?_
      refine then_normal ?_
      refine al_r [(4, 7)] [(0, .slice (some ⟨7, 0, none⟩) (Sp.nop.length + (Sp.stk ps (u + 1)).length) 0), (4, .slice none 0 0), (5, .int .i64 0), (10, .slice (some ⟨0, 0, none⟩) ps.length 0), (11, .int .i64 ((ps.length : Nat) : Int)), (12, .int .i64 (((u + 1) : Nat) : Int))] [(0, ⟨(ps.flatMap ptc), 29, true, 2⟩), (7, ⟨((Sp.nop ++ (Sp.stk ps (u + 1)).reverse).flatMap ptc), 29, true, 2⟩)] [(0, .slice (some ⟨4, 0, none⟩) (Sp.nop.length + (Sp.stk ps (u + 1)).length) 0), (4, .slice none 0 0), (5, .int .i64 0), (10, .slice (some ⟨0, 0, none⟩) ps.length 0), (11, .int .i64 ((ps.length : Nat) : Int)), (12, .int .i64 (((u + 1) : Nat) : Int))] [(0, ⟨(ps.flatMap ptc), 29, true, 2⟩), (4, ⟨((Sp.nop ++ (Sp.stk ps (u + 1)).reverse).flatMap ptc), 29, true, 2⟩)] ?_ ⟨rfl, (.slice _ _ _ _ _ rfl), rfl, (.flatB (by kernel_rfl)), rfl, (.flatB (by kernel_rfl)), rfl, (.slice _ _ _ _ _ rfl), rfl, (.flatB (by kernel_rfl)), rfl, (.flatB (by kernel_rfl)), trivial⟩ ⟨rfl, ⟨rfl, rfl, rfl, (.flats (flats_pair _))⟩, rfl, ⟨rfl, rfl, rfl, (.flats (flats_pair _))⟩, trivial⟩
      exact ih1 (u + 1) (show (1 ≤ (u + 1) ∧ (u + 1) ≤ ps.length) from by omega) (show ps.length - (u + 1) < ps.length - u from by omega)
  · have h1p : ¬ ((((u : Nat) : Int) < ((ps.length : Nat) : Int))) := by first | (simpa using h1) | (have h1q := h1; simp at h1q; omega) | (have h1q := bx2 h1; simp at h1q; omega)
    have hin : u = ps.length := by omega
    refine aw_ex 0 ?_
    refine then_exit ?_
    refine then_exit ?_
    refine block_exit ?_
    refine then_normal ?_
    refine aw_w [(0, .slice (some ⟨4, 0, none⟩) (Sp.nop.length + (Sp.stk ps ps.length).length) 0), (4, .slice none 0 0)] [(0, ⟨(ps.flatMap ptc), 29, true, 2⟩), (4, ⟨((Sp.nop ++ (Sp.stk ps ps.length).reverse).flatMap ptc), 29, true, 2⟩)] ?_ (by subst hin; kernel_rfl) (by subst hin; kernel_rfl) (hc := (by simp [closedB, valsB, valB, List.all_eq_true, List.mem_flatMap, List.mem_range, List.mem_map, i64v, ptc, flat1]; try (intros; simp [valsB, valB, flat1]); try decide))
    refine aw_p 31 (
      .a 3 5 <|
      .p (does_i (((Sp.nop.length + (Sp.stk ps ps.length).length) - 1 : Nat) : Int) ((show (IntKind.wrap .i64 (((Sp.nop.length + (Sp.stk ps ps.length).length : Nat) : Int) - 1)) = (((Sp.nop.length + (Sp.stk ps ps.length).length) - 1 : Nat) : Int) from ((wrap_i64 (by omega) (by omega)).trans (by omega)))) .i64) <|
      .p (does_val (v' := .slice (some ⟨4, 0, none⟩) ((Sp.nop.length + (Sp.stk ps ps.length).length) - 1) 0) (does_slice (t := 24) (x := .tmp 48) (lo := none) (hi := some (.tmp 51)) (k := 4) (off := 0) (n := (Sp.nop.length + (Sp.stk ps ps.length).length)) (c := 0) (z := 2) (l := 0) (h := (((Sp.nop.length + (Sp.stk ps ps.length).length) - 1 : Nat) : Int)) (m := ((Sp.nop.length + (Sp.stk ps ps.length).length) - 1)) (b := ⟨((Sp.nop ++ (Sp.stk ps ps.length).reverse).flatMap ptc), 29, true, 2⟩) (by kernel_rfl) (by kernel_rfl) (by kernel_rfl) (by kernel_rfl) (by kernel_rfl) (by kernel_rfl) (by kernel_rfl) (by kernel_rfl) (by omega) (by omega) (by omega) (by omega)) (by kernel_rfl)) <|
      .a 1 5 <| .nil _ _) ?_
    refine aw_shrink 4 ⟨((Sp.nop ++ (Sp.stk ps ps.length).reverse).flatMap ptc), 29, true, 2⟩ ((Sp.chO ps).flatMap ptc) (2 * ((Sp.nop.length + (Sp.stk ps ps.length).length) - 1)) ?_ (Sp.pop_take (bs := Sp.nop) hsp)
    refine aw_w [(4, .slice (some ⟨4, 0, none⟩) ((Sp.chO ps).length) 0)] [(0, ⟨(ps.flatMap ptc), 29, true, 2⟩), (4, ⟨((Sp.chO ps).flatMap ptc), 29, true, 2⟩)] ?_ (by (rw [show (Sp.chO ps).length = (Sp.nop.length + (Sp.stk ps ps.length).length) - 1 from Sp.chO_len2 (bs := Sp.nop) hps]); kernel_rfl) (by kernel_rfl) (hc := (by simp [closedB, valsB, valB, List.all_eq_true, List.mem_flatMap, List.mem_range, List.mem_map, i64v, ptc, flat1]; try (intros; simp [valsB, valB, flat1]); try decide))
    refine aw_r [(1, 4)] [(4, .slice (some ⟨4, 0, none⟩) ((Sp.chO ps).length) 0)] [(0, ⟨(ps.flatMap ptc), 29, true, 2⟩), (4, ⟨((Sp.chO ps).flatMap ptc), 29, true, 2⟩)] [(4, .slice (some ⟨1, 0, none⟩) ((Sp.chO ps).length) 0)] [(0, ⟨(ps.flatMap ptc), 29, true, 2⟩), (1, ⟨((Sp.chO ps).flatMap ptc), 29, true, 2⟩)] ?_ ⟨rfl, (.slice _ _ _ _ _ rfl), trivial⟩ ⟨rfl, ⟨rfl, rfl, rfl, (.flats (flats_pair _))⟩, rfl, ⟨rfl, rfl, rfl, (.flats (flats_pair _))⟩, trivial⟩
    refine aw_rt ?_
    exact en_ret [.slice (some ⟨1, 0, none⟩) ((Sp.chO ps).length) 0] (by kernel_rfl)

theorem chain_app (bs ps : List (Int × Int)) (hb : Sp.Few 1048576 bs) (hl : Sp.Few 1048576 ps) (hps : 1 ≤ ps.length) (hz : ∀ i, i ≤ ps.length → bs.length + (Sp.stk ps i).length ≤ 8796093022000) (hz2 : ps.length ≤ 8796093021952) :
    AC Try.prog 84 2 ([.slice (some ⟨0, 0, none⟩) bs.length 0, .slice (some ⟨1, 0, none⟩) ps.length 0]) [(0, ⟨(bs.flatMap ptc), 29, true, 2⟩), (1, ⟨(ps.flatMap ptc), 29, true, 2⟩)] (.slice (some ⟨2, 0, none⟩) ((bs ++ Sp.chO ps).length) 0) [(1, ⟨(ps.flatMap ptc), 29, true, 2⟩), (2, ⟨((bs ++ Sp.chO ps).flatMap ptc), 29, true, 2⟩)] := by
  have hsp := Sp.stk_pos (l := ps) hps; have hsl := Sp.stk_len ps ps.length; have hz0 := hz 0 (by omega); have hzn := hz ps.length (Nat.le_refl _)
  refine ac_in Try.func84 (fun w0 W pin => ?_)
  refine aw_p 3 (
    .a 1 3 <| .nil _ _) ?_
  refine aw_p 7 (
    .a 3 3 <| .nil _ _) ?_
  refine aw_sq 14 15 ?_
  refine aw_p 29 (
    .a 3 3 <| .nil _ _) ?_
  refine aw_bl 0 59 ?_
  refine aw_lp 119 ?_
  refine al_round ?_
  refine aw_p 239 (
    .p (does_b true ((show (decide (0 < ((ps.length : Nat) : Int))) = true from decide_eq_true (by omega)))) <| .nil _ _) ?_
  refine aw_sq 478 479 ?_
  refine aw_tr 956 ?_
  refine aw_sk ?_
  refine then_normal ?_
  refine aw_sq 958 959 ?_
  refine aw_bl 1 1917 ?_
  refine aw_p 3835 (
    .p (does_indexSlice (t := 24) (x := .tmp 10) (y := .tmp 12) (k := 1) (off := 0) (n := ps.length) (c := 0) (z := 2) (kd := .i64) (j := 0) (by kernel_rfl) (by kernel_rfl) (by kernel_rfl) (by kernel_rfl) (by kernel_rfl) (by omega) (by omega)) <|
    .p (does_load (t := 29) (x := .tmp 14) (k := 1) (off := 0) (b := ⟨(ps.flatMap ptc), 29, true, 2⟩) (v := .agg #[.int .i64 ((ps.getD 0 (0, 0)).1), .int .i64 ((ps.getD 0 (0, 0)).2)]) (by kernel_rfl) (by kernel_rfl) (by kernel_rfl) (ldV_pair (j := 0) (by kernel_rfl) (by kernel_rfl) (by omega) (by first | omega | (simp only [List.length_append, List.length_reverse]; omega)))) <|
    .a 2 3 <| .nil _ _) ?_
  refine aw_sq 7670 7671 ?_
  refine aw_bl 2 15341 ?_
  refine aw_lp 30683 ?_
  refine al_round ?_
  refine aw_sq 61366 61367 ?_
  refine aw_d 122733 (
    .a 3 4 <| .p (does_i (((bs.length : Nat) : Int) + 1) (wrap_i64 (by omega) (by omega)) .i64) <| .p (does_b false ((show (decide (((bs.length : Nat) : Int) > (((bs.length : Nat) : Int) + 1))) = false from decide_eq_false (by omega)))) <| .a 17 4 <| .nil _ _) ?_
  refine aw_fl 245467 ?_
  refine aw_ex 2 ?_
  refine then_exit ?_
  refine then_exit ?_
  refine block_exit ?_
  refine then_normal ?_
  refine aw_p1 (
    .a 3 4 <|
    .p (does_apy 5 29 2 16 0 bs.length 4 1 ⟨(bs.flatMap ptc), 29, true, 2⟩ ⟨[.int .i64 ((ps.getD 0 (0, 0)).1), .int .i64 ((ps.getD 0 (0, 0)).2)], 29, true, 2⟩ ((bs ++ [(((ps.getD 0 (0, 0)).1), ((ps.getD 0 (0, 0)).2))]).flatMap ptc) (by kernel_rfl) (by kernel_rfl) (by kernel_rfl) (by kernel_rfl) (by kernel_rfl) (by rw [pairs_length]; omega) (by omega) (by omega) (by simp [ptc])) <|
    .a 1 6 <| .nil _ _) ?_
  refine block_normal ?_
  refine then_normal ?_
  refine aw_w [(0, .slice (some ⟨5, 0, none⟩) (bs.length + 1) 0), (4, .slice none 0 0), (5, .int .i64 ((bs.length : Nat) : Int)), (7, .pointer (some ⟨3, 0, none⟩)), (10, .slice (some ⟨1, 0, none⟩) ps.length 0), (11, .int .i64 ((ps.length : Nat) : Int)), (12, .int .i64 0), (13, .bool true), (37, .bool false)] [(1, ⟨(ps.flatMap ptc), 29, true, 2⟩), (3, ⟨[.int .i64 ((ps.getD 0 (0, 0)).1), .int .i64 ((ps.getD 0 (0, 0)).2)], 29, true, 2⟩), (5, ⟨((bs ++ [(((ps.getD 0 (0, 0)).1), ((ps.getD 0 (0, 0)).2))]).flatMap ptc), 29, true, 2⟩)] ?_ (by ((try rw [Sp.stk_len_next _ hpc hst])); kernel_rfl) (by ((try rw [Sp.stk_len_next _ hpc hst])); kernel_rfl) (hc := (by simp [closedB, valsB, valB, List.all_eq_true, List.mem_flatMap, List.mem_range, List.mem_map, i64v, ptc, flat1]; try (intros; simp [valsB, valB, flat1]); try decide))
  refine aw_p1 (
    .a 2 6 <| .nil _ _) ?_
  refine then_normal ?_
  refine al_w [(0, .slice (some ⟨5, 0, none⟩) (bs.length + (Sp.stk ps 1).length) 0), (4, .slice none 0 0), (5, .int .i64 ((bs.length : Nat) : Int)), (10, .slice (some ⟨1, 0, none⟩) ps.length 0), (11, .int .i64 ((ps.length : Nat) : Int)), (12, .int .i64 ((1 : Nat) : Int))] [(1, ⟨(ps.flatMap ptc), 29, true, 2⟩), (5, ⟨((bs ++ (Sp.stk ps 1).reverse).flatMap ptc), 29, true, 2⟩)] ?_ (hc := (by simp [closedB, valsB, valB, List.all_eq_true, List.mem_flatMap, List.mem_range, List.mem_map, i64v, ptc, flat1]; try (intros; simp [valsB, valB, flat1]); try decide))
  refine al_ind (fun i : Nat => (fun (u : Nat) => mkSt 2 [(0, .slice (some ⟨5, 0, none⟩) (bs.length + (Sp.stk ps u).length) 0), (4, .slice none 0 0), (5, .int .i64 ((bs.length : Nat) : Int)), (10, .slice (some ⟨1, 0, none⟩) ps.length 0), (11, .int .i64 ((ps.length : Nat) : Int)), (12, .int .i64 ((u : Nat) : Int))] [(1, ⟨(ps.flatMap ptc), 29, true, 2⟩), (5, ⟨((bs ++ (Sp.stk ps u).reverse).flatMap ptc), 29, true, 2⟩)]) i) (fun i : Nat => (fun (u : Nat) => (1 ≤ u ∧ u ≤ ps.length)) i) (fun i : Nat => (fun (u : Nat) => ps.length - u) i) (fun i hi1 ih1 => ?_) 1 (show (1 ≤ 1 ∧ 1 ≤ ps.length) from by omega)
  obtain ⟨u, hv1⟩ : ∃ z, z = i := ⟨i, rfl⟩; subst hv1
  have hi1' : (1 ≤ u ∧ u ≤ ps.length) := hi1
  have hi : 1 ≤ u ∧ u ≤ ps.length := hi1'
  show AL _ _ _ (mkSt 2 [(0, .slice (some ⟨5, 0, none⟩) (bs.length + (Sp.stk ps u).length) 0), (4, .slice none 0 0), (5, .int .i64 ((bs.length : Nat) : Int)), (10, .slice (some ⟨1, 0, none⟩) ps.length 0), (11, .int .i64 ((ps.length : Nat) : Int)), (12, .int .i64 ((u : Nat) : Int))] [(1, ⟨(ps.flatMap ptc), 29, true, 2⟩), (5, ⟨((bs ++ (Sp.stk ps u).reverse).flatMap ptc), 29, true, 2⟩)]) _
  have hsi := Sp.stk_len ps u
  have hzu := hz u (by omega)
  refine al_round ?_
  refine aw_p 239 (
    .a 1 6 <| .nil _ _) ?_
  refine aw_sq 478 479 ?_
  refine aw_cd 956 957 (decide (((u : Nat) : Int) < ((ps.length : Nat) : Int))) (fun h1 => ?_) (fun h1 => ?_)
  · have h1p : ((((u : Nat) : Int) < ((ps.length : Nat) : Int))) := by first | (simpa using h1) | (have h1q := h1; simp at h1q; omega) | (have h1q := bx1 h1; simp at h1q; omega)
    refine aw_sk ?_
    refine then_normal ?_
    refine aw_sq 958 959 ?_
    refine aw_bl 1 1917 ?_
    refine aw_p 3835 (
      .p (does_indexSlice (t := 24) (x := .tmp 10) (y := .tmp 12) (k := 1) (off := 0) (n := ps.length) (c := 0) (z := 2) (kd := .i64) (j := ((u : Nat) : Int)) (by kernel_rfl) (by kernel_rfl) (by kernel_rfl) (by kernel_rfl) (by kernel_rfl) (by omega) (by omega)) <|
      .p (does_load (t := 29) (x := .tmp 14) (k := 1) (off := (0 + (((u : Nat) : Int)).toNat * 2)) (b := ⟨(ps.flatMap ptc), 29, true, 2⟩) (v := .agg #[.int .i64 ((ps.getD u (0, 0)).1), .int .i64 ((ps.getD u (0, 0)).2)]) (by kernel_rfl) (by kernel_rfl) (by kernel_rfl) (ldV_pair (j := u) (by kernel_rfl) (by kernel_rfl) (by omega) (by first | omega | (simp only [List.length_append, List.length_reverse]; omega)))) <|
      .a 2 6 <| .nil _ _) ?_
    refine aw_sq 7670 7671 ?_
    refine aw_bl 2 15341 ?_
    refine aw_lp 30683 ?_
    refine al_w [(0, .slice (some ⟨5, 0, none⟩) (bs.length + (Sp.stk ps u).length) 0), (4, .slice none 0 0), (5, .int .i64 ((bs.length : Nat) : Int)), (7, .pointer (some ⟨6, 0, none⟩)), (10, .slice (some ⟨1, 0, none⟩) ps.length 0), (11, .int .i64 ((ps.length : Nat) : Int)), (12, .int .i64 ((u : Nat) : Int))] [(1, ⟨(ps.flatMap ptc), 29, true, 2⟩), (5, ⟨((bs ++ (Sp.stk ps u).reverse).flatMap ptc), 29, true, 2⟩), (6, ⟨[.int .i64 ((ps.getD u (0, 0)).1), .int .i64 ((ps.getD u (0, 0)).2)], 29, true, 2⟩)] ?_ (hc := (by simp [closedB, valsB, valB, List.all_eq_true, List.mem_flatMap, List.mem_range, List.mem_map, i64v, ptc, flat1]; try (intros; simp [valsB, valB, flat1]); try decide))
    refine al_ind (fun i : List (Int × Int) => (fun (c : List (Int × Int)) => mkSt 2 [(0, .slice (some ⟨5, 0, none⟩) (bs.length + c.length) 0), (4, .slice none 0 0), (5, .int .i64 ((bs.length : Nat) : Int)), (7, .pointer (some ⟨6, 0, none⟩)), (10, .slice (some ⟨1, 0, none⟩) ps.length 0), (11, .int .i64 ((ps.length : Nat) : Int)), (12, .int .i64 ((u : Nat) : Int))] [(1, ⟨(ps.flatMap ptc), 29, true, 2⟩), (5, ⟨((bs ++ c.reverse).flatMap ptc), 29, true, 2⟩), (6, ⟨[.int .i64 ((ps.getD u (0, 0)).1), .int .i64 ((ps.getD u (0, 0)).2)], 29, true, 2⟩)]) i) (fun i : List (Int × Int) => (fun (c : List (Int × Int)) => (Sp.popC (ps.getD u (0, 0)) c = Sp.popC (ps.getD u (0, 0)) (Sp.stk ps u)) ∧ (∀ p ∈ c, p ∈ ps) ∧ (c.length ≤ (Sp.stk ps u).length)) i) (fun i : List (Int × Int) => (fun (c : List (Int × Int)) => c.length) i) (fun i hi2 ih2 => ?_) (Sp.stk ps u) (show (Sp.popC (ps.getD u (0, 0)) (Sp.stk ps u) = Sp.popC (ps.getD u (0, 0)) (Sp.stk ps u)) ∧ (∀ p ∈ (Sp.stk ps u), p ∈ ps) ∧ ((Sp.stk ps u).length ≤ (Sp.stk ps u).length) from ⟨by rfl, by exact fun p hp => Sp.stk_mem (by omega) hp, by exact Nat.le_refl _⟩)
    obtain ⟨c, hv2⟩ : ∃ z, z = i := ⟨i, rfl⟩; subst hv2
    have hi2' : (Sp.popC (ps.getD u (0, 0)) c = Sp.popC (ps.getD u (0, 0)) (Sp.stk ps u)) ∧ (∀ p ∈ c, p ∈ ps) ∧ (c.length ≤ (Sp.stk ps u).length) := hi2
    obtain ⟨hpc, hcl, hcb⟩ := hi2'
    show AL _ _ _ (mkSt 2 [(0, .slice (some ⟨5, 0, none⟩) (bs.length + c.length) 0), (4, .slice none 0 0), (5, .int .i64 ((bs.length : Nat) : Int)), (7, .pointer (some ⟨6, 0, none⟩)), (10, .slice (some ⟨1, 0, none⟩) ps.length 0), (11, .int .i64 ((ps.length : Nat) : Int)), (12, .int .i64 ((u : Nat) : Int))] [(1, ⟨(ps.flatMap ptc), 29, true, 2⟩), (5, ⟨((bs ++ c.reverse).flatMap ptc), 29, true, 2⟩), (6, ⟨[.int .i64 ((ps.getD u (0, 0)).1), .int .i64 ((ps.getD u (0, 0)).2)], 29, true, 2⟩)]) _
    have hfc := Sp.few_stk (by decide) hb hl hcl; have hfq := hl u
    refine al_round ?_
    refine aw_sq 61366 61367 ?_
    rcases Bool.eq_false_or_eq_true (decide ((((bs.length + c.length) : Nat) : Int) > (((bs.length : Nat) : Int) + 1))) with h2 | h2
    · have h2p : (((((bs.length + c.length) : Nat) : Int) > (((bs.length : Nat) : Int) + 1))) := by first | (simpa using h2) | (have h2q := h2; simp at h2q; omega) | (have h2q := bx1 h2; simp at h2q; omega)
      have hc2 : 2 ≤ c.length := by omega
      have fa := hfc ((bs.length + c.length) - 2); have fb := hfc ((bs.length + c.length) - 1)
      refine aw_d 122733 (
        .a 3 7 <| .p (does_i (((bs.length : Nat) : Int) + 1) (wrap_i64 (by omega) (by omega)) .i64) <| .p (does_b true (h2)) <| .a 4 7 <|
        .p (does_i (((bs.length + c.length) - 2 : Nat) : Int) ((show (IntKind.wrap .i64 ((((bs.length + c.length) : Nat) : Int) - 2)) = (((bs.length + c.length) - 2 : Nat) : Int) from ((wrap_i64 (by omega) (by omega)).trans (by omega)))) .i64) <|
        .p (does_indexSlice (t := 24) (x := .tmp 22) (y := .tmp 25) (k := 5) (off := 0) (n := (bs.length + c.length)) (c := 0) (z := 2) (kd := .i64) (j := (((bs.length + c.length) - 2 : Nat) : Int)) (by kernel_rfl) (by kernel_rfl) (by kernel_rfl) (by kernel_rfl) (by kernel_rfl) (by omega) (by omega)) <|
        .p (does_load (t := 29) (x := .tmp 26) (k := 5) (off := (0 + ((((bs.length + c.length) - 2 : Nat) : Int)).toNat * 2)) (b := ⟨((bs ++ c.reverse).flatMap ptc), 29, true, 2⟩) (v := .agg #[.int .i64 (((bs ++ c.reverse).getD ((bs.length + c.length) - 2) (0, 0)).1), .int .i64 (((bs ++ c.reverse).getD ((bs.length + c.length) - 2) (0, 0)).2)]) (by kernel_rfl) (by kernel_rfl) (by kernel_rfl) (ldV_pair (j := ((bs.length + c.length) - 2)) (by kernel_rfl) (by kernel_rfl) (by omega) (by first | omega | (simp only [List.length_append, List.length_reverse]; omega)))) <|
        .a 3 7 <| .p (does_i (((bs.length + c.length) - 1 : Nat) : Int) ((show (IntKind.wrap .i64 ((((bs.length + c.length) : Nat) : Int) - 1)) = (((bs.length + c.length) - 1 : Nat) : Int) from ((wrap_i64 (by omega) (by omega)).trans (by omega)))) .i64) <|
        .p (does_indexSlice (t := 24) (x := .tmp 28) (y := .tmp 31) (k := 5) (off := 0) (n := (bs.length + c.length)) (c := 0) (z := 2) (kd := .i64) (j := (((bs.length + c.length) - 1 : Nat) : Int)) (by kernel_rfl) (by kernel_rfl) (by kernel_rfl) (by kernel_rfl) (by kernel_rfl) (by omega) (by omega)) <|
        .p (does_load (t := 29) (x := .tmp 32) (k := 5) (off := (0 + ((((bs.length + c.length) - 1 : Nat) : Int)).toNat * 2)) (b := ⟨((bs ++ c.reverse).flatMap ptc), 29, true, 2⟩) (v := .agg #[.int .i64 (((bs ++ c.reverse).getD ((bs.length + c.length) - 1) (0, 0)).1), .int .i64 (((bs ++ c.reverse).getD ((bs.length + c.length) - 1) (0, 0)).2)]) (by kernel_rfl) (by kernel_rfl) (by kernel_rfl) (ldV_pair (j := ((bs.length + c.length) - 1)) (by kernel_rfl) (by kernel_rfl) (by omega) (by first | omega | (simp only [List.length_append, List.length_reverse]; omega)))) <|
        .a 1 7 <|
        .p (does_c (turn_in (((bs ++ c.reverse).getD ((bs.length + c.length) - 2) (0, 0)).1) (((bs ++ c.reverse).getD ((bs.length + c.length) - 2) (0, 0)).2) (((bs ++ c.reverse).getD ((bs.length + c.length) - 1) (0, 0)).1) (((bs ++ c.reverse).getD ((bs.length + c.length) - 1) (0, 0)).2) ((ps.getD u (0, 0)).1) ((ps.getD u (0, 0)).2) (by omega) (by omega) (by omega) (by omega) (by omega) (by omega) (by omega) (by omega) (by omega) (by omega) (by omega) (by omega))) <|
        .p (does_b (Sp.popB (bs ++ c.reverse) (bs.length + c.length) (ps.getD u (0, 0)).1 (ps.getD u (0, 0)).2) (Sp.popB_dec _ _ _ _)) <| .a 1 7 <| .nil _ _) ?_
      refine aw_cd 245466 245467 (Sp.popB (bs ++ c.reverse) (bs.length + c.length) (ps.getD u (0, 0)).1 (ps.getD u (0, 0)).2) (fun h3 => ?_) (fun h3 => ?_)
      · refine aw_sk ?_
        refine then_normal ?_
        refine aw_bl 3 122735 ?_
        refine aw_p1 (
          .a 3 7 <| .p (does_i (((bs.length + c.length) - 1 : Nat) : Int) ((show (IntKind.wrap .i64 ((((bs.length + c.length) : Nat) : Int) - 1)) = (((bs.length + c.length) - 1 : Nat) : Int) from ((wrap_i64 (by omega) (by omega)).trans (by omega)))) .i64) <|
          .p (does_val (v' := .slice (some ⟨5, 0, none⟩) ((bs.length + c.length) - 1) 0) (does_slice (t := 24) (x := .tmp 38) (lo := none) (hi := some (.tmp 41)) (k := 5) (off := 0) (n := (bs.length + c.length)) (c := 0) (z := 2) (l := 0) (h := (((bs.length + c.length) - 1 : Nat) : Int)) (m := ((bs.length + c.length) - 1)) (b := ⟨((bs ++ c.reverse).flatMap ptc), 29, true, 2⟩) (by kernel_rfl) (by kernel_rfl) (by kernel_rfl) (by kernel_rfl) (by kernel_rfl) (by kernel_rfl) (by kernel_rfl) (by kernel_rfl) (by omega) (by omega) (by omega) (by omega)) (by kernel_rfl)) <|
          .a 1 7 <| .nil _ _) ?_
        refine block_normal ?_
        refine then_normal ?_
        refine al_shrink 5 ⟨((bs ++ c.reverse).flatMap ptc), 29, true, 2⟩ ((bs ++ c.tail.reverse).flatMap ptc) (2 * ((bs.length + c.length) - 1)) ?_ (Sp.pop_take (bs := bs) (by omega))
        refine al_w [(0, .slice (some ⟨5, 0, none⟩) (bs.length + c.tail.length) 0), (4, .slice none 0 0), (5, .int .i64 ((bs.length : Nat) : Int)), (7, .pointer (some ⟨6, 0, none⟩)), (10, .slice (some ⟨1, 0, none⟩) ps.length 0), (11, .int .i64 ((ps.length : Nat) : Int)), (12, .int .i64 ((u : Nat) : Int))] [(1, ⟨(ps.flatMap ptc), 29, true, 2⟩), (5, ⟨((bs ++ c.tail.reverse).flatMap ptc), 29, true, 2⟩), (6, ⟨[.int .i64 ((ps.getD u (0, 0)).1), .int .i64 ((ps.getD u (0, 0)).2)], 29, true, 2⟩)] ?_ (by (rw [show (bs.length + c.tail.length) = (bs.length + c.length) - 1 from (by rw [List.length_tail]; omega)]); kernel_rfl) (by kernel_rfl) (hc := (by simp [closedB, valsB, valB, List.all_eq_true, List.mem_flatMap, List.mem_range, List.mem_map, i64v, ptc, flat1]; try (intros; simp [valsB, valB, flat1]); try decide))
        refine al_w [(0, .slice (some ⟨5, 0, none⟩) (bs.length + c.tail.length) 0), (4, .slice none 0 0), (5, .int .i64 ((bs.length : Nat) : Int)), (7, .pointer (some ⟨6, 0, none⟩)), (10, .slice (some ⟨1, 0, none⟩) ps.length 0), (11, .int .i64 ((ps.length : Nat) : Int)), (12, .int .i64 ((u : Nat) : Int))] [(1, ⟨(ps.flatMap ptc), 29, true, 2⟩), (5, ⟨((bs ++ c.tail.reverse).flatMap ptc), 29, true, 2⟩), (6, ⟨[.int .i64 ((ps.getD u (0, 0)).1), .int .i64 ((ps.getD u (0, 0)).2)], 29, true, 2⟩)] ?_ (hc := (by simp [closedB, valsB, valB, List.all_eq_true, List.mem_flatMap, List.mem_range, List.mem_map, i64v, ptc, flat1]; try (intros; simp [valsB, valB, flat1]); try decide))
        exact ih2 c.tail (show (Sp.popC (ps.getD u (0, 0)) c.tail = Sp.popC (ps.getD u (0, 0)) (Sp.stk ps u)) ∧ (∀ p ∈ c.tail, p ∈ ps) ∧ (c.tail.length ≤ (Sp.stk ps u).length) from ⟨by (rw [← hpc]; exact Sp.popC_yes (bs := bs) hc2 (by assumption)), by exact fun p hp => hcl p (List.mem_of_mem_tail hp), by (rw [List.length_tail]; omega)⟩) (show c.tail.length < c.length from by (rw [List.length_tail]; omega))
      · have hst := Sp.popC_no (bs := bs) (q := (ps.getD u (0, 0))) hc2 h3
        refine aw_ex 2 ?_
        refine then_exit ?_
        refine then_exit ?_
        refine block_exit ?_
        refine then_normal ?_
        refine aw_p1 (
          .a 3 7 <|
          .p (does_apy 8 29 2 16 5 (bs.length + c.length) 7 1 ⟨((bs ++ c.reverse).flatMap ptc), 29, true, 2⟩ ⟨[.int .i64 ((ps.getD u (0, 0)).1), .int .i64 ((ps.getD u (0, 0)).2)], 29, true, 2⟩ ((bs ++ (Sp.stk ps (u + 1)).reverse).flatMap ptc) (by kernel_rfl) (by kernel_rfl) (by kernel_rfl) (by kernel_rfl) (by kernel_rfl) (by show (((bs ++ c.reverse).flatMap ptc)).length = _; rw [pairs_length, List.length_append, List.length_reverse]; omega) (by omega) (by omega) (Sp.stk_snoc hpc hst)) <|
          .a 1 9 <| .nil _ _) ?_
        refine block_normal ?_
        refine then_normal ?_
        refine aw_w [(0, .slice (some ⟨8, 0, none⟩) (bs.length + (Sp.stk ps (u + 1)).length) 0), (4, .slice none 0 0), (5, .int .i64 ((bs.length : Nat) : Int)), (7, .pointer (some ⟨6, 0, none⟩)), (10, .slice (some ⟨1, 0, none⟩) ps.length 0), (11, .int .i64 ((ps.length : Nat) : Int)), (12, .int .i64 ((u : Nat) : Int)), (37, .bool (Sp.popB (bs ++ c.reverse) (bs.length + c.length) (ps.getD u (0, 0)).1 (ps.getD u (0, 0)).2))] [(1, ⟨(ps.flatMap ptc), 29, true, 2⟩), (6, ⟨[.int .i64 ((ps.getD u (0, 0)).1), .int .i64 ((ps.getD u (0, 0)).2)], 29, true, 2⟩), (8, ⟨((bs ++ (Sp.stk ps (u + 1)).reverse).flatMap ptc), 29, true, 2⟩)] ?_ (by ((try rw [Sp.stk_len_next _ hpc hst])); kernel_rfl) (by ((try rw [Sp.stk_len_next _ hpc hst])); kernel_rfl) (hc := (by simp [closedB, valsB, valB, List.all_eq_true, List.mem_flatMap, List.mem_range, List.mem_map, i64v, ptc, flat1]; try (intros; simp [valsB, valB, flat1]); try decide))
        refine aw_p1 (
          .p (does_i (((u : Nat) : Int) + 1) (wrap_i64 (by omega) (by omega)) .i64) <| .a 1 9 <| .nil _ _) ?_
        refine then_normal ?_
        refine al_r [(5, 8)] [(0, .slice (some ⟨8, 0, none⟩) (bs.length + (Sp.stk ps (u + 1)).length) 0), (4, .slice none 0 0), (5, .int .i64 ((bs.length : Nat) : Int)), (10, .slice (some ⟨1, 0, none⟩) ps.length 0), (11, .int .i64 ((ps.length : Nat) : Int)), (12, .int .i64 (((u + 1) : Nat) : Int))] [(1, ⟨(ps.flatMap ptc), 29, true, 2⟩), (8, ⟨((bs ++ (Sp.stk ps (u + 1)).reverse).flatMap ptc), 29, true, 2⟩)] [(0, .slice (some ⟨5, 0, none⟩) (bs.length + (Sp.stk ps (u + 1)).length) 0), (4, .slice none 0 0), (5, .int .i64 ((bs.length : Nat) : Int)), (10, .slice (some ⟨1, 0, none⟩) ps.length 0), (11, .int .i64 ((ps.length : Nat) : Int)), (12, .int .i64 (((u + 1) : Nat) : Int))] [(1, ⟨(ps.flatMap ptc), 29, true, 2⟩), (5, ⟨((bs ++ (Sp.stk ps (u + 1)).reverse).flatMap ptc), 29, true, 2⟩)] ?_ ⟨rfl, (.slice _ _ _ _ _ rfl), rfl, (.flatB (by kernel_rfl)), rfl, (.flatB (by kernel_rfl)), rfl, (.slice _ _ _ _ _ rfl), rfl, (.flatB (by kernel_rfl)), rfl, (.flatB (by kernel_rfl)), trivial⟩ ⟨rfl, ⟨rfl, rfl, rfl, (.flats (flats_pair _))⟩, rfl, ⟨rfl, rfl, rfl, (.flats (flats_pair _))⟩, trivial⟩
        exact ih1 (u + 1) (show (1 ≤ (u + 1) ∧ (u + 1) ≤ ps.length) from by omega) (show ps.length - (u + 1) < ps.length - u from by omega)
    · have h2p : ¬ (((((bs.length + c.length) : Nat) : Int) > (((bs.length : Nat) : Int) + 1))) := by first | (simpa using h2) | (have h2q := h2; simp at h2q; omega) | (have h2q := bx2 h2; simp at h2q; omega)
      have hst := Sp.popC_short (q := (ps.getD u (0, 0))) (c := c) (by omega)
      refine aw_d 122733 (
        .a 3 7 <| .p (does_i (((bs.length : Nat) : Int) + 1) (wrap_i64 (by omega) (by omega)) .i64) <| .p (does_b false (h2)) <| .a 17 7 <| .nil _ _) ?_
      refine aw_fl 245467 ?_
      refine aw_ex 2 ?_
      refine then_exit ?_
      refine then_exit ?_
      refine block_exit ?_
      refine then_normal ?_
      refine aw_p1 (
        .a 3 7 <|
        .p (does_apy 8 29 2 16 5 (bs.length + c.length) 7 1 ⟨((bs ++ c.reverse).flatMap ptc), 29, true, 2⟩ ⟨[.int .i64 ((ps.getD u (0, 0)).1), .int .i64 ((ps.getD u (0, 0)).2)], 29, true, 2⟩ ((bs ++ (Sp.stk ps (u + 1)).reverse).flatMap ptc) (by kernel_rfl) (by kernel_rfl) (by kernel_rfl) (by kernel_rfl) (by kernel_rfl) (by show (((bs ++ c.reverse).flatMap ptc)).length = _; rw [pairs_length, List.length_append, List.length_reverse]; omega) (by omega) (by omega) (Sp.stk_snoc hpc hst)) <|
        .a 1 9 <| .nil _ _) ?_
      refine block_normal ?_
      refine then_normal ?_
      refine aw_w [(0, .slice (some ⟨8, 0, none⟩) (bs.length + (Sp.stk ps (u + 1)).length) 0), (4, .slice none 0 0), (5, .int .i64 ((bs.length : Nat) : Int)), (7, .pointer (some ⟨6, 0, none⟩)), (10, .slice (some ⟨1, 0, none⟩) ps.length 0), (11, .int .i64 ((ps.length : Nat) : Int)), (12, .int .i64 ((u : Nat) : Int)), (37, .bool false)] [(1, ⟨(ps.flatMap ptc), 29, true, 2⟩), (6, ⟨[.int .i64 ((ps.getD u (0, 0)).1), .int .i64 ((ps.getD u (0, 0)).2)], 29, true, 2⟩), (8, ⟨((bs ++ (Sp.stk ps (u + 1)).reverse).flatMap ptc), 29, true, 2⟩)] ?_ (by ((try rw [Sp.stk_len_next _ hpc hst])); kernel_rfl) (by ((try rw [Sp.stk_len_next _ hpc hst])); kernel_rfl) (hc := (by simp [closedB, valsB, valB, List.all_eq_true, List.mem_flatMap, List.mem_range, List.mem_map, i64v, ptc, flat1]; try (intros; simp [valsB, valB, flat1]); try decide))
      refine aw_p1 (
        .p (does_i (((u : Nat) : Int) + 1) (wrap_i64 (by omega) (by omega)) .i64) <| .a 1 9 <| .nil _ _) ?_
      refine then_normal ?_
      refine al_r [(5, 8)] [(0, .slice (some ⟨8, 0, none⟩) (bs.length + (Sp.stk ps (u + 1)).length) 0), (4, .slice none 0 0), (5, .int .i64 ((bs.length : Nat) : Int)), (10, .slice (some ⟨1, 0, none⟩) ps.length 0), (11, .int .i64 ((ps.length : Nat) : Int)), (12, .int .i64 (((u + 1) : Nat) : Int))] [(1, ⟨(ps.flatMap ptc), 29, true, 2⟩), (8, ⟨((bs ++ (Sp.stk ps (u + 1)).reverse).flatMap ptc), 29, true, 2⟩)] [(0, .slice (some ⟨5, 0, none⟩) (bs.length + (Sp.stk ps (u + 1)).length) 0), (4, .slice none 0 0), (5, .int .i64 ((bs.length : Nat) : Int)), (10, .slice (some ⟨1, 0, none⟩) ps.length 0), (11, .int .i64 ((ps.length : Nat) : Int)), (12, .int .i64 (((u + 1) : Nat) : Int))] [(1, ⟨(ps.flatMap ptc), 29, true, 2⟩), (5, ⟨((bs ++ (Sp.stk ps (u + 1)).reverse).flatMap ptc), 29, true, 2⟩)] ?_ ⟨rfl, (.slice _ _ _ _ _ rfl), rfl, (.flatB (by kernel_rfl)), rfl, (.flatB (by kernel_rfl)), rfl, (.slice _ _ _ _ _ rfl), rfl, (.flatB (by kernel_rfl)), rfl, (.flatB (by kernel_rfl)), trivial⟩ ⟨rfl, ⟨rfl, rfl, rfl, (.flats (flats_pair _))⟩, rfl, ⟨rfl, rfl, rfl, (.flats (flats_pair _))⟩, trivial⟩
      exact ih1 (u + 1) (show (1 ≤ (u + 1) ∧ (u + 1) ≤ ps.length) from by omega) (show ps.length - (u + 1) < ps.length - u from by omega)
  · have h1p : ¬ ((((u : Nat) : Int) < ((ps.length : Nat) : Int))) := by first | (simpa using h1) | (have h1q := h1; simp at h1q; omega) | (have h1q := bx2 h1; simp at h1q; omega)
    have hin : u = ps.length := by omega
    refine aw_ex 0 ?_
    refine then_exit ?_
    refine then_exit ?_
    refine block_exit ?_
    refine then_normal ?_
    refine aw_w [(0, .slice (some ⟨5, 0, none⟩) (bs.length + (Sp.stk ps ps.length).length) 0), (4, .slice none 0 0)] [(1, ⟨(ps.flatMap ptc), 29, true, 2⟩), (5, ⟨((bs ++ (Sp.stk ps ps.length).reverse).flatMap ptc), 29, true, 2⟩)] ?_ (by subst hin; kernel_rfl) (by subst hin; kernel_rfl) (hc := (by simp [closedB, valsB, valB, List.all_eq_true, List.mem_flatMap, List.mem_range, List.mem_map, i64v, ptc, flat1]; try (intros; simp [valsB, valB, flat1]); try decide))
    refine aw_p 31 (
      .a 3 6 <|
      .p (does_i (((bs.length + (Sp.stk ps ps.length).length) - 1 : Nat) : Int) ((show (IntKind.wrap .i64 (((bs.length + (Sp.stk ps ps.length).length : Nat) : Int) - 1)) = (((bs.length + (Sp.stk ps ps.length).length) - 1 : Nat) : Int) from ((wrap_i64 (by omega) (by omega)).trans (by omega)))) .i64) <|
      .p (does_val (v' := .slice (some ⟨5, 0, none⟩) ((bs.length + (Sp.stk ps ps.length).length) - 1) 0) (does_slice (t := 24) (x := .tmp 48) (lo := none) (hi := some (.tmp 51)) (k := 5) (off := 0) (n := (bs.length + (Sp.stk ps ps.length).length)) (c := 0) (z := 2) (l := 0) (h := (((bs.length + (Sp.stk ps ps.length).length) - 1 : Nat) : Int)) (m := ((bs.length + (Sp.stk ps ps.length).length) - 1)) (b := ⟨((bs ++ (Sp.stk ps ps.length).reverse).flatMap ptc), 29, true, 2⟩) (by kernel_rfl) (by kernel_rfl) (by kernel_rfl) (by kernel_rfl) (by kernel_rfl) (by kernel_rfl) (by kernel_rfl) (by kernel_rfl) (by omega) (by omega) (by omega) (by omega)) (by kernel_rfl)) <|
      .a 1 6 <| .nil _ _) ?_
    refine aw_shrink 5 ⟨((bs ++ (Sp.stk ps ps.length).reverse).flatMap ptc), 29, true, 2⟩ ((bs ++ Sp.chO ps).flatMap ptc) (2 * ((bs.length + (Sp.stk ps ps.length).length) - 1)) ?_ (Sp.pop_take (bs := bs) hsp)
    refine aw_w [(4, .slice (some ⟨5, 0, none⟩) ((bs ++ Sp.chO ps).length) 0)] [(1, ⟨(ps.flatMap ptc), 29, true, 2⟩), (5, ⟨((bs ++ Sp.chO ps).flatMap ptc), 29, true, 2⟩)] ?_ (by (rw [show (bs ++ Sp.chO ps).length = (bs.length + (Sp.stk ps ps.length).length) - 1 from Sp.chO_len2 (bs := bs) hps]); kernel_rfl) (by kernel_rfl) (hc := (by simp [closedB, valsB, valB, List.all_eq_true, List.mem_flatMap, List.mem_range, List.mem_map, i64v, ptc, flat1]; try (intros; simp [valsB, valB, flat1]); try decide))
    refine aw_r [(2, 5)] [(4, .slice (some ⟨5, 0, none⟩) ((bs ++ Sp.chO ps).length) 0)] [(1, ⟨(ps.flatMap ptc), 29, true, 2⟩), (5, ⟨((bs ++ Sp.chO ps).flatMap ptc), 29, true, 2⟩)] [(4, .slice (some ⟨2, 0, none⟩) ((bs ++ Sp.chO ps).length) 0)] [(1, ⟨(ps.flatMap ptc), 29, true, 2⟩), (2, ⟨((bs ++ Sp.chO ps).flatMap ptc), 29, true, 2⟩)] ?_ ⟨rfl, (.slice _ _ _ _ _ rfl), trivial⟩ ⟨rfl, ⟨rfl, rfl, rfl, (.flats (flats_pair _))⟩, rfl, ⟨rfl, rfl, rfl, (.flats (flats_pair _))⟩, trivial⟩
    refine aw_rt ?_
    exact en_ret [.slice (some ⟨2, 0, none⟩) ((bs ++ Sp.chO ps).length) 0] (by kernel_rfl)


end Go.Proofs.Ytadifmimefmcnaa.Am
