/-
  The walk of the document's normal form of a ring.
-/
import Derived.Test.YtigllakcfdoagaaProg
import Derived.Test.YtigllakcfdoagaaAm16
import Derived.Test.YtigllakcfdoagaaRnd2
namespace Go.Proofs.Ytigllakcfdoagaa.Am
open Go Go.Proofs
set_option maxRecDepth 100000
set_option maxHeartbeats 4000000
set_option linter.unusedVariables false
set_option linter.unusedSimpArgs false

theorem rnorm_ro (ps : List (Int × Int)) (m : Nat) (hn : 1 ≤ ps.length) (hz : ps.length ≤ 4096) (hm : m < ps.length) (hd : Sp.Diff ps) (hl : ∀ j, j < ps.length → Sp.befP (ps.getD j (0, 0)) (ps.getD m (0, 0)) = false) :
    AC Try.prog 62 1 ([.slice (some ⟨0, 0, none⟩) ps.length 0]) [(0, ⟨(ps.flatMap ptc), 24, false, 2⟩)] (.slice (some ⟨1, 0, none⟩) ps.length 0) [(1, ⟨((Sp.nrmL ps m).flatMap ptc), 24, true, 2⟩)] := by
  refine ac_in Try.func62 (fun w0 W pin => ?_)
  refine aw_p 3 (
    .a 2 2 <| .nil _ _) ?_
  refine aw_p 7 (
    .a 3 3 <| .nil _ _) ?_
  refine aw_sq 14 15 ?_
  refine aw_p 29 (
    .a 3 3 <| .nil _ _) ?_
  refine aw_bl 0 59 ?_
  refine aw_lp 119 ?_
  refine al_w [(1, .pointer (some ⟨2, 0, none⟩)), (2, .slice none 0 0), (3, .int .i64 ((ps.length : Nat) : Int)), (10, .slice (some ⟨0, 0, none⟩) ps.length 0), (11, .int .i64 ((ps.length : Nat) : Int)), (12, .int .i64 ((0 : Nat) : Int))] [(0, ⟨(ps.flatMap ptc), 24, false, 2⟩), (2, ⟨[.slice (some ⟨0, 0, none⟩) ps.length 0], 37, true, 1⟩)] ?_ (hc := (by simp [closedB, valsB, valB, List.all_eq_true, List.mem_flatMap, List.mem_range, List.mem_map, i64v, ptc, flat1]; try (intros; simp [valsB, valB, flat1]); try decide))
  refine al_ind (fun i : Nat => (fun (ii : Nat) => mkSt 1 [(1, .pointer (some ⟨2, 0, none⟩)), (2, .slice none 0 0), (3, .int .i64 ((ps.length : Nat) : Int)), (10, .slice (some ⟨0, 0, none⟩) ps.length 0), (11, .int .i64 ((ps.length : Nat) : Int)), (12, .int .i64 ((ii : Nat) : Int))] [(0, ⟨(ps.flatMap ptc), 24, false, 2⟩), (2, ⟨[.slice (some ⟨0, 0, none⟩) ps.length 0], 37, true, 1⟩)]) i) (fun i : Nat => (fun (ii : Nat) => (ii ≤ m)) i) (fun i : Nat => (fun (ii : Nat) => ps.length - ii) i) (fun i hi1 ih1 => ?_) 0 (show (0 ≤ m) from by omega)
  obtain ⟨ii, hv1⟩ : ∃ z, z = i := ⟨i, rfl⟩; subst hv1
  have hi1' : (ii ≤ m) := hi1
  have hi : ii ≤ m := hi1'
  show AL _ _ _ (mkSt 1 [(1, .pointer (some ⟨2, 0, none⟩)), (2, .slice none 0 0), (3, .int .i64 ((ps.length : Nat) : Int)), (10, .slice (some ⟨0, 0, none⟩) ps.length 0), (11, .int .i64 ((ps.length : Nat) : Int)), (12, .int .i64 ((ii : Nat) : Int))] [(0, ⟨(ps.flatMap ptc), 24, false, 2⟩), (2, ⟨[.slice (some ⟨0, 0, none⟩) ps.length 0], 37, true, 1⟩)]) _
  refine al_round ?_
  refine aw_p 239 (
    .a 1 3 <| .nil _ _) ?_
  refine aw_sq 478 479 ?_
  refine aw_cd 956 957 (decide (((ii : Nat) : Int) < ((ps.length : Nat) : Int))) (fun h1 => ?_) (fun h1 => ?_)
  · have h1p : ((((ii : Nat) : Int) < ((ps.length : Nat) : Int))) := by first | (simpa using h1) | (have h1q := h1; simp at h1q; omega) | (have h1q := bx1 h1; simp at h1q; omega)
    have hil : ii < ps.length := by omega
    refine aw_sk ?_
    refine then_normal ?_
    refine aw_sq 958 959 ?_
    refine aw_bl 1 1917 ?_
    refine aw_p 3835 (
      .a 3 3 <| .nil _ _) ?_
    refine aw_sq 7670 7671 ?_
    refine aw_p 15341 (
      .a 2 4 <|
      .p (does_callB (x := .func 72) (ars := #[.tmp 15, .tmp 16]) (ats := #[37, 91]) (g := 72) (vs := [.slice (some ⟨0, 0, none⟩) ps.length 0, .func (.func 123) #[] #[.pointer (some ⟨2, 0, none⟩), .pointer (some ⟨3, 0, none⟩)]]) (m := 3) (r := 0) (firsts := #[]) (caps := #[]) (args0 := [.slice (some ⟨0, 0, none⟩) ps.length 0, .func (.func 123) #[] #[.pointer (some ⟨1, 0, none⟩), .pointer (some ⟨2, 0, none⟩)]]) (pre0 := [(0, ⟨(ps.flatMap ptc), 24, false, 2⟩), (1, ⟨[.slice (some ⟨0, 0, none⟩) ps.length 0], 37, true, 1⟩), (2, ⟨[.int .i64 ((ii : Nat) : Int)], 3, true, 1⟩)]) (post0 := [(1, ⟨[.slice (some ⟨0, 0, none⟩) ps.length 0], 37, true, 1⟩), (2, ⟨[.int .i64 ((ii : Nat) : Int)], 3, true, 1⟩)]) (pre := [(0, ⟨(ps.flatMap ptc), 24, false, 2⟩), (2, ⟨[.slice (some ⟨0, 0, none⟩) ps.length 0], 37, true, 1⟩), (3, ⟨[.int .i64 ((ii : Nat) : Int)], 3, true, 1⟩)]) (post := [(2, ⟨[.slice (some ⟨0, 0, none⟩) ps.length 0], 37, true, 1⟩), (3, ⟨[.int .i64 ((ii : Nat) : Int)], 3, true, 1⟩)]) (v0 := .bool (ps.any (fun q => Sp.befP q (ps.getD ii (0, 0))))) (v := .bool (ps.any (fun q => Sp.befP q (ps.getD ii (0, 0))))) [0, 2, 3] (by kernel_rfl) (by kernel_rfl) (by kernel_rfl) (by kernel_rfl) (nct_ro ps ii (by omega) (by omega)) (.cons (.slice _ _ _ _ _ (by decide)) (.cons (.funcL (.flats (by kernel_rfl)) (.cons (.ptr _ _ (by decide)) (.cons (.ptr _ _ (by decide)) .nil))) .nil)) ⟨rfl, ⟨rfl, rfl, rfl, (.flats (flats_pair _))⟩, rfl, ⟨rfl, rfl, rfl, (.cons (.slice _ _ _ _ _ (by decide)) .nil)⟩, rfl, ⟨rfl, rfl, rfl, (.flats (by kernel_rfl))⟩, trivial⟩ (by kernel_rfl) (by kernel_rfl) (by kernel_rfl) ⟨rfl, ⟨rfl, rfl, rfl, (.cons (.slice _ _ _ _ _ (by decide)) .nil)⟩, rfl, ⟨rfl, rfl, rfl, (.flats (by kernel_rfl))⟩, trivial⟩ (.flatB (by kernel_rfl))) <| .nil _ _) ?_
    refine aw_cd 30682 30683 (ps.any (fun q => Sp.befP q (ps.getD ii (0, 0)))) (fun h2 => ?_) (fun h2 => ?_)
    · have hlt : ii + 1 ≤ m := Sp.any_lt hm hl hi (by assumption)
      refine aw_ex 1 ?_
      refine then_exit ?_
      refine block_exit ?_
      refine then_normal ?_
      refine aw_p1 (
        .p (does_i (((ii : Nat) : Int) + 1) (wrap_i64 (by omega) (by omega)) .i64) <| .a 1 4 <| .nil _ _) ?_
      refine then_normal ?_
      refine al_w [(1, .pointer (some ⟨2, 0, none⟩)), (2, .slice none 0 0), (3, .int .i64 ((ps.length : Nat) : Int)), (10, .slice (some ⟨0, 0, none⟩) ps.length 0), (11, .int .i64 ((ps.length : Nat) : Int)), (12, .int .i64 (((ii + 1) : Nat) : Int))] [(0, ⟨(ps.flatMap ptc), 24, false, 2⟩), (2, ⟨[.slice (some ⟨0, 0, none⟩) ps.length 0], 37, true, 1⟩)] ?_ (hc := (by simp [closedB, valsB, valB, List.all_eq_true, List.mem_flatMap, List.mem_range, List.mem_map, i64v, ptc, flat1]; try (intros; simp [valsB, valB, flat1]); try decide))
      exact ih1 (ii + 1) (show ((ii + 1) ≤ m) from by omega) (show ps.length - (ii + 1) < ps.length - ii from by omega)
    · have hie : ii = m := Sp.any_eq hm hd hl hi (by assumption)
      refine aw_sk ?_
      refine then_normal ?_
      refine aw_p 15343 (
        .a 1 4 <| .nil _ _) ?_
      refine aw_sq 30686 30687 ?_
      refine aw_p 61373 (
        .a 1 4 <|
        .p (does_callB (x := .func 57) (ars := #[.tmp 18]) (ats := #[37]) (g := 57) (vs := [.slice (some ⟨0, 0, none⟩) ps.length 0]) (m := 1) (r := 0) (firsts := #[]) (caps := #[]) (args0 := [.slice (some ⟨0, 0, none⟩) ps.length 0]) (pre0 := [(0, ⟨(ps.flatMap ptc), 24, false, 2⟩)]) (post0 := []) (pre := [(0, ⟨(ps.flatMap ptc), 24, false, 2⟩)]) (post := []) (v0 := .int .i64 (Sp.dblF ps 0 0)) (v := .int .i64 (Sp.dblF ps 0 0)) [0] (by kernel_rfl) (by kernel_rfl) (by kernel_rfl) (by kernel_rfl) (dbln_ro ps ps.length (rfl) (by first | omega | decide)) (.cons (.slice _ _ _ _ _ (by decide)) .nil) ⟨rfl, ⟨rfl, rfl, rfl, (.flats (flats_pair _))⟩, trivial⟩ (by kernel_rfl) (by kernel_rfl) (by kernel_rfl) trivial (.flatB (by kernel_rfl))) <|
        .a 1 4 <| .nil _ _) ?_
      refine aw_cd 122746 122747 (decide ((Sp.dblF ps 0 0) < 0)) (fun h3 => ?_) (fun h3 => ?_)
      · have h3p : (((Sp.dblF ps 0 0) < 0)) := by first | (simpa using h3) | (have h3q := h3; simp at h3q; omega) | (have h3q := bx1 h3; simp at h3q; omega)
        have ht :  Sp.twF ps 1 0 < 0 := by have := Sp.dblF_twF ps; first | (have q := of_decide_eq_true h3; omega) | (have q := of_decide_eq_false h3; omega)
        refine aw_p1 (
          .a 1 4 <| .p (does_i ((ps.length - 1 : Nat) : Int) ((show (IntKind.wrap .i64 (((ps.length : Nat) : Int) - 1)) = ((ps.length - 1 : Nat) : Int) from ((wrap_i64 (by omega) (by omega)).trans (by omega)))) .i64) <| .a 1 4 <| .nil _ _) ?_
        refine then_normal ?_
        refine aw_p 61375 (
          .a 1 4 <| .nil _ _) ?_
        refine aw_sq 122750 122751 ?_
        refine aw_p 245501 (
          .a 2 4 <| .nil _ _) ?_
        refine aw_bl 2 491003 ?_
        refine aw_lp 982007 ?_
        refine al_round ?_
        refine aw_p 1964015 (
          .a 1 4 <| .nil _ _) ?_
        refine aw_sq 3928030 3928031 ?_
        refine aw_cd 7856060 7856061 (decide (0 < ((ps.length : Nat) : Int))) (fun h4 => ?_) (fun h4 => ?_)
        · have h4p : ((0 < ((ps.length : Nat) : Int))) := by first | (simpa using h4) | (have h4q := h4; simp at h4q; omega) | (have h4q := bx1 h4; simp at h4q; omega)
          have hmul : 0 * (ps.length - 1) ≤ 16777216 := Nat.le_trans (Nat.mul_le_mul (show 0 ≤ 4096 by omega) (show (ps.length - 1) ≤ 4096 by omega)) (by decide)
          obtain ⟨j, hj⟩ : ∃ j, (ii + 0 * (ps.length - 1)) % ps.length = j := ⟨_, rfl⟩; have hjl : j < ps.length := hj ▸ Nat.mod_lt _ (by omega)
          refine aw_sk ?_
          refine then_normal ?_
          refine aw_sq 7856062 7856063 ?_
          refine aw_bl 3 15712125 ?_
          refine aw_p 31424251 (
            .a 2 4 <| .nil _ _) ?_
          refine aw_d1 (
            .a 5 4 <|
            .p (does_i ((0 * (ps.length - 1) : Nat) : Int) ((show (IntKind.wrap .i64 (0 * ((ps.length - 1 : Nat) : Int))) = ((0 * (ps.length - 1) : Nat) : Int) from (by show IntKind.wrap .i64 (((0 : Nat) : Int) * (((ps.length - 1) : Nat) : Int)) = _; rw [← Int.natCast_mul]; exact wrap_i64 (by omega) (by omega)))) .i64) <|
            .p (does_i (((ii : Nat) : Int) + ((0 * (ps.length - 1) : Nat) : Int)) (wrap_i64 (by omega) (by omega)) .i64) <| .a 1 4 <|
            .p (does_int (n' := ((j : Nat) : Int)) (does_rem (t := 3) (t2 := 3) (x := .tmp 33) (y := .tmp 34) (k := .i64) (a := (((ii : Nat) : Int) + ((0 * (ps.length - 1) : Nat) : Int))) (b := ((ps.length : Nat) : Int)) (by kernel_rfl) (by kernel_rfl) (by kernel_rfl) (by omega)) ((show (Int.tmod (((ii : Nat) : Int) + ((0 * (ps.length - 1) : Nat) : Int)) ((ps.length : Nat) : Int)) = ((j : Nat) : Int) from (by rw [← hj]; exact rfl)))) <|
            .p (does_indexSlice (t := 37) (x := .tmp 28) (y := .tmp 35) (k := 0) (off := 0) (n := ps.length) (c := 0) (z := 2) (kd := .i64) (j := ((j : Nat) : Int)) (by kernel_rfl) (by kernel_rfl) (by kernel_rfl) (by kernel_rfl) (by kernel_rfl) (by omega) (by omega)) <|
            .p (does_load (t := 24) (x := .tmp 36) (k := 0) (off := (0 + (((j : Nat) : Int)).toNat * 2)) (b := ⟨(ps.flatMap ptc), 24, false, 2⟩) (v := .agg #[.int .i64 ((ps.getD j (0, 0)).1), .int .i64 ((ps.getD j (0, 0)).2)]) (by kernel_rfl) (by kernel_rfl) (by kernel_rfl) (ldV_pair (j := j) (by kernel_rfl) (by kernel_rfl) (by omega) (by omega))) <|
            .a 1 4 <| .p (does_ap 5) <| .a 1 6 <| .nil _ _) ?_
          refine block_normal ?_
          refine then_normal ?_
          have hone : (Sp.stepL ps m (ps.length - 1) 1).flatMap ptc = [.int .i64 ((ps.getD j (0, 0)).1), .int .i64 ((ps.getD j (0, 0)).2)] := Sp.stepL_one (by rw [← hie]; exact hj) rfl
          refine aw_w [(1, .pointer (some ⟨2, 0, none⟩)), (3, .int .i64 ((ps.length : Nat) : Int)), (4, .pointer (some ⟨3, 0, none⟩)), (5, .int .i64 ((ps.length - 1 : Nat) : Int)), (6, .slice (some ⟨5, 0, none⟩) 1 0), (23, .int .i64 ((ps.length : Nat) : Int)), (24, .int .i64 0)] [(0, ⟨(ps.flatMap ptc), 24, false, 2⟩), (2, ⟨[.slice (some ⟨0, 0, none⟩) ps.length 0], 37, true, 1⟩), (3, ⟨[.int .i64 ((ii : Nat) : Int)], 3, true, 1⟩), (5, ⟨((Sp.stepL ps m (ps.length - 1) 1).flatMap ptc), 24, true, 2⟩)] ?_ (by kernel_rfl) (by rw [hone]; kernel_rfl) (hc := (by simp [closedB, valsB, valB, List.all_eq_true, List.mem_flatMap, List.mem_range, List.mem_map, i64v, ptc, flat1]; try (intros; simp [valsB, valB, flat1]); try decide))
          refine aw_p1 (
            .a 2 6 <| .nil _ _) ?_
          refine then_normal ?_
          refine al_w [(1, .pointer (some ⟨2, 0, none⟩)), (3, .int .i64 ((ps.length : Nat) : Int)), (4, .pointer (some ⟨3, 0, none⟩)), (5, .int .i64 ((ps.length - 1 : Nat) : Int)), (6, .slice (some ⟨5, 0, none⟩) 1 0), (23, .int .i64 ((ps.length : Nat) : Int)), (24, .int .i64 ((1 : Nat) : Int))] [(0, ⟨(ps.flatMap ptc), 24, false, 2⟩), (2, ⟨[.slice (some ⟨0, 0, none⟩) ps.length 0], 37, true, 1⟩), (3, ⟨[.int .i64 ((ii : Nat) : Int)], 3, true, 1⟩), (5, ⟨((Sp.stepL ps m (ps.length - 1) 1).flatMap ptc), 24, true, 2⟩)] ?_ (hc := (by simp [closedB, valsB, valB, List.all_eq_true, List.mem_flatMap, List.mem_range, List.mem_map, i64v, ptc, flat1]; try (intros; simp [valsB, valB, flat1]); try decide))
          refine al_ind (fun i : Nat => (fun (q : Nat) => mkSt 1 [(1, .pointer (some ⟨2, 0, none⟩)), (3, .int .i64 ((ps.length : Nat) : Int)), (4, .pointer (some ⟨3, 0, none⟩)), (5, .int .i64 ((ps.length - 1 : Nat) : Int)), (6, .slice (some ⟨5, 0, none⟩) q 0), (23, .int .i64 ((ps.length : Nat) : Int)), (24, .int .i64 ((q : Nat) : Int))] [(0, ⟨(ps.flatMap ptc), 24, false, 2⟩), (2, ⟨[.slice (some ⟨0, 0, none⟩) ps.length 0], 37, true, 1⟩), (3, ⟨[.int .i64 ((ii : Nat) : Int)], 3, true, 1⟩), (5, ⟨((Sp.stepL ps m (ps.length - 1) q).flatMap ptc), 24, true, 2⟩)]) i) (fun i : Nat => (fun (q : Nat) => (1 ≤ q ∧ q ≤ ps.length)) i) (fun i : Nat => (fun (q : Nat) => ps.length - q) i) (fun i hi2 ih2 => ?_) 1 (show (1 ≤ 1 ∧ 1 ≤ ps.length) from by omega)
          obtain ⟨q, hv2⟩ : ∃ z, z = i := ⟨i, rfl⟩; subst hv2
          have hi2' : (1 ≤ q ∧ q ≤ ps.length) := hi2
          have hq : 1 ≤ q ∧ q ≤ ps.length := hi2'
          show AL _ _ _ (mkSt 1 [(1, .pointer (some ⟨2, 0, none⟩)), (3, .int .i64 ((ps.length : Nat) : Int)), (4, .pointer (some ⟨3, 0, none⟩)), (5, .int .i64 ((ps.length - 1 : Nat) : Int)), (6, .slice (some ⟨5, 0, none⟩) q 0), (23, .int .i64 ((ps.length : Nat) : Int)), (24, .int .i64 ((q : Nat) : Int))] [(0, ⟨(ps.flatMap ptc), 24, false, 2⟩), (2, ⟨[.slice (some ⟨0, 0, none⟩) ps.length 0], 37, true, 1⟩), (3, ⟨[.int .i64 ((ii : Nat) : Int)], 3, true, 1⟩), (5, ⟨((Sp.stepL ps m (ps.length - 1) q).flatMap ptc), 24, true, 2⟩)]) _
          refine al_round ?_
          refine aw_p 1964015 (
            .a 1 6 <| .nil _ _) ?_
          refine aw_sq 3928030 3928031 ?_
          refine aw_cd 7856060 7856061 (decide (((q : Nat) : Int) < ((ps.length : Nat) : Int))) (fun h5 => ?_) (fun h5 => ?_)
          · have h5p : ((((q : Nat) : Int) < ((ps.length : Nat) : Int))) := by first | (simpa using h5) | (have h5q := h5; simp at h5q; omega) | (have h5q := bx1 h5; simp at h5q; omega)
            have hql : q < ps.length := by omega
            have hmul : q * (ps.length - 1) ≤ 16777216 := Nat.le_trans (Nat.mul_le_mul (show q ≤ 4096 by omega) (show (ps.length - 1) ≤ 4096 by omega)) (by decide)
            obtain ⟨j, hj⟩ : ∃ j, (ii + q * (ps.length - 1)) % ps.length = j := ⟨_, rfl⟩; have hjl : j < ps.length := hj ▸ Nat.mod_lt _ (by omega)
            refine aw_sk ?_
            refine then_normal ?_
            refine aw_sq 7856062 7856063 ?_
            refine aw_bl 3 15712125 ?_
            refine aw_p 31424251 (
              .a 2 6 <| .nil _ _) ?_
            refine aw_d1 (
              .a 5 6 <|
              .p (does_i ((q * (ps.length - 1) : Nat) : Int) ((show (IntKind.wrap .i64 (((q : Nat) : Int) * ((ps.length - 1 : Nat) : Int))) = ((q * (ps.length - 1) : Nat) : Int) from (by show IntKind.wrap .i64 (((q : Nat) : Int) * (((ps.length - 1) : Nat) : Int)) = _; rw [← Int.natCast_mul]; exact wrap_i64 (by omega) (by omega)))) .i64) <|
              .p (does_i (((ii : Nat) : Int) + ((q * (ps.length - 1) : Nat) : Int)) (wrap_i64 (by omega) (by omega)) .i64) <| .a 1 6 <|
              .p (does_int (n' := ((j : Nat) : Int)) (does_rem (t := 3) (t2 := 3) (x := .tmp 33) (y := .tmp 34) (k := .i64) (a := (((ii : Nat) : Int) + ((q * (ps.length - 1) : Nat) : Int))) (b := ((ps.length : Nat) : Int)) (by kernel_rfl) (by kernel_rfl) (by kernel_rfl) (by omega)) ((show (Int.tmod (((ii : Nat) : Int) + ((q * (ps.length - 1) : Nat) : Int)) ((ps.length : Nat) : Int)) = ((j : Nat) : Int) from (by rw [← hj]; exact rfl)))) <|
              .p (does_indexSlice (t := 37) (x := .tmp 28) (y := .tmp 35) (k := 0) (off := 0) (n := ps.length) (c := 0) (z := 2) (kd := .i64) (j := ((j : Nat) : Int)) (by kernel_rfl) (by kernel_rfl) (by kernel_rfl) (by kernel_rfl) (by kernel_rfl) (by omega) (by omega)) <|
              .p (does_load (t := 24) (x := .tmp 36) (k := 0) (off := (0 + (((j : Nat) : Int)).toNat * 2)) (b := ⟨(ps.flatMap ptc), 24, false, 2⟩) (v := .agg #[.int .i64 ((ps.getD j (0, 0)).1), .int .i64 ((ps.getD j (0, 0)).2)]) (by kernel_rfl) (by kernel_rfl) (by kernel_rfl) (ldV_pair (j := j) (by kernel_rfl) (by kernel_rfl) (by omega) (by omega))) <|
              .a 1 6 <|
              .p (does_apy 7 24 2 16 5 q 6 1 ⟨((Sp.stepL ps m (ps.length - 1) q).flatMap ptc), 24, true, 2⟩ ⟨[.int .i64 ((ps.getD j (0, 0)).1), .int .i64 ((ps.getD j (0, 0)).2)], 24, true, 2⟩ ((Sp.stepL ps m (ps.length - 1) (q + 1)).flatMap ptc) (by kernel_rfl) (by kernel_rfl) (by kernel_rfl) (by kernel_rfl) (by kernel_rfl) (by rw [pairs_length]; simp [Sp.stepL]; omega) (by omega) (by omega) (Sp.stepL_next (by rw [← hie]; exact hj) rfl)) <|
              .a 1 8 <| .nil _ _) ?_
            refine block_normal ?_
            refine then_normal ?_
            refine aw_p1 (
              .p (does_i (((q : Nat) : Int) + 1) (wrap_i64 (by omega) (by omega)) .i64) <| .a 1 8 <| .nil _ _) ?_
            refine then_normal ?_
            refine al_r [(5, 7)] [(1, .pointer (some ⟨2, 0, none⟩)), (3, .int .i64 ((ps.length : Nat) : Int)), (4, .pointer (some ⟨3, 0, none⟩)), (5, .int .i64 ((ps.length - 1 : Nat) : Int)), (6, .slice (some ⟨7, 0, none⟩) (q + 1) 0), (23, .int .i64 ((ps.length : Nat) : Int)), (24, .int .i64 (((q + 1) : Nat) : Int))] [(0, ⟨(ps.flatMap ptc), 24, false, 2⟩), (2, ⟨[.slice (some ⟨0, 0, none⟩) ps.length 0], 37, true, 1⟩), (3, ⟨[.int .i64 ((ii : Nat) : Int)], 3, true, 1⟩), (7, ⟨((Sp.stepL ps m (ps.length - 1) (q + 1)).flatMap ptc), 24, true, 2⟩)] [(1, .pointer (some ⟨2, 0, none⟩)), (3, .int .i64 ((ps.length : Nat) : Int)), (4, .pointer (some ⟨3, 0, none⟩)), (5, .int .i64 ((ps.length - 1 : Nat) : Int)), (6, .slice (some ⟨5, 0, none⟩) (q + 1) 0), (23, .int .i64 ((ps.length : Nat) : Int)), (24, .int .i64 (((q + 1) : Nat) : Int))] [(0, ⟨(ps.flatMap ptc), 24, false, 2⟩), (2, ⟨[.slice (some ⟨0, 0, none⟩) ps.length 0], 37, true, 1⟩), (3, ⟨[.int .i64 ((ii : Nat) : Int)], 3, true, 1⟩), (5, ⟨((Sp.stepL ps m (ps.length - 1) (q + 1)).flatMap ptc), 24, true, 2⟩)] ?_ ⟨rfl, (.ptr _ _ rfl), rfl, (.flatB (by kernel_rfl)), rfl, (.ptr _ _ rfl), rfl, (.flatB (by kernel_rfl)), rfl, (.slice _ _ _ _ _ rfl), rfl, (.flatB (by kernel_rfl)), rfl, (.flatB (by kernel_rfl)), trivial⟩ ⟨rfl, ⟨rfl, rfl, rfl, (.flats (flats_pair _))⟩, rfl, ⟨rfl, rfl, rfl, (.cons (.slice _ _ _ _ _ rfl) .nil)⟩, rfl, ⟨rfl, rfl, rfl, (.flats (by kernel_rfl))⟩, rfl, ⟨rfl, rfl, rfl, (.flats (flats_pair _))⟩, trivial⟩
            exact ih2 (q + 1) (show (1 ≤ (q + 1) ∧ (q + 1) ≤ ps.length) from by omega) (show ps.length - (q + 1) < ps.length - q from by omega)
          · have h5p : ¬ ((((q : Nat) : Int) < ((ps.length : Nat) : Int))) := by first | (simpa using h5) | (have h5q := h5; simp at h5q; omega) | (have h5q := bx2 h5; simp at h5q; omega)
            have hqe : q = ps.length := by omega
            refine aw_ex 2 ?_
            refine then_exit ?_
            refine then_exit ?_
            refine block_exit ?_
            refine then_normal ?_
            refine aw_p 245503 (
              .a 2 6 <| .nil _ _) ?_
            subst hqe
            refine aw_w [(1, .pointer (some ⟨2, 0, none⟩)), (2, .slice (some ⟨5, 0, none⟩) ps.length 0), (3, .int .i64 ((ps.length : Nat) : Int)), (4, .pointer (some ⟨3, 0, none⟩)), (5, .int .i64 ((ps.length - 1 : Nat) : Int)), (6, .slice (some ⟨5, 0, none⟩) ps.length 0), (23, .int .i64 ((ps.length : Nat) : Int)), (24, .int .i64 ((ps.length : Nat) : Int)), (25, .bool (decide (((ps.length : Nat) : Int) < ((ps.length : Nat) : Int)))), (41, .slice (some ⟨5, 0, none⟩) ps.length 0)] [(0, ⟨(ps.flatMap ptc), 24, false, 2⟩), (2, ⟨[.slice (some ⟨0, 0, none⟩) ps.length 0], 37, true, 1⟩), (3, ⟨[.int .i64 ((ii : Nat) : Int)], 3, true, 1⟩), (5, ⟨((Sp.nrmL ps m).flatMap ptc), 24, true, 2⟩)] ?_ (by kernel_rfl) (by rw [← (Sp.nrm_step hm).1 ht]; kernel_rfl) (hc := (by simp [closedB, valsB, valB, List.all_eq_true, List.mem_flatMap, List.mem_range, List.mem_map, i64v, ptc, flat1]; try (intros; simp [valsB, valB, flat1]); try decide))
            refine aw_r [(1, 5)] [(2, .slice (some ⟨5, 0, none⟩) ps.length 0)] [(0, ⟨(ps.flatMap ptc), 24, false, 2⟩), (5, ⟨((Sp.nrmL ps m).flatMap ptc), 24, true, 2⟩)] [(2, .slice (some ⟨1, 0, none⟩) ps.length 0)] [(0, ⟨(ps.flatMap ptc), 24, false, 2⟩), (1, ⟨((Sp.nrmL ps m).flatMap ptc), 24, true, 2⟩)] ?_ ⟨rfl, (.slice _ _ _ _ _ rfl), trivial⟩ ⟨rfl, ⟨rfl, rfl, rfl, (.flats (flats_pair _))⟩, rfl, ⟨rfl, rfl, rfl, (.flats (flats_pair _))⟩, trivial⟩
            refine aw_rt ?_
            refine block_ret ?_
            refine then_ret ?_
            refine then_ret ?_
            refine block_ret ?_
            refine then_ret ?_
            exact en_ret [.slice (some ⟨1, 0, none⟩) ps.length 0] (by kernel_rfl)
        · have h4p : ¬ ((0 < ((ps.length : Nat) : Int))) := by first | (simpa using h4) | (have h4q := h4; simp at h4q; omega) | (have h4q := bx2 h4; simp at h4q; omega)
          exact absurd hn (by omega)
      · have h3p : ¬ (((Sp.dblF ps 0 0) < 0)) := by first | (simpa using h3) | (have h3q := h3; simp at h3q; omega) | (have h3q := bx2 h3; simp at h3q; omega)
        have ht : ¬ Sp.twF ps 1 0 < 0 := by have := Sp.dblF_twF ps; first | (have q := of_decide_eq_true h3; omega) | (have q := of_decide_eq_false h3; omega)
        refine aw_sk ?_
        refine then_normal ?_
        refine aw_p 61375 (
          .a 1 4 <| .nil _ _) ?_
        refine aw_sq 122750 122751 ?_
        refine aw_p 245501 (
          .a 2 4 <| .nil _ _) ?_
        refine aw_bl 2 491003 ?_
        refine aw_lp 982007 ?_
        refine al_round ?_
        refine aw_p 1964015 (
          .a 1 4 <| .nil _ _) ?_
        refine aw_sq 3928030 3928031 ?_
        refine aw_cd 7856060 7856061 (decide (0 < ((ps.length : Nat) : Int))) (fun h6 => ?_) (fun h6 => ?_)
        · have h6p : ((0 < ((ps.length : Nat) : Int))) := by first | (simpa using h6) | (have h6q := h6; simp at h6q; omega) | (have h6q := bx1 h6; simp at h6q; omega)
          have hmul : 0 * 1 ≤ 16777216 := Nat.le_trans (Nat.mul_le_mul (show 0 ≤ 4096 by omega) (show 1 ≤ 4096 by omega)) (by decide)
          obtain ⟨j, hj⟩ : ∃ j, (ii + 0 * 1) % ps.length = j := ⟨_, rfl⟩; have hjl : j < ps.length := hj ▸ Nat.mod_lt _ (by omega)
          refine aw_sk ?_
          refine then_normal ?_
          refine aw_sq 7856062 7856063 ?_
          refine aw_bl 3 15712125 ?_
          refine aw_p 31424251 (
            .a 2 4 <| .nil _ _) ?_
          refine aw_d1 (
            .a 6 4 <| .p (does_i (((ii : Nat) : Int) + 0) (wrap_i64 (by omega) (by omega)) .i64) <| .a 1 4 <|
            .p (does_int (n' := ((j : Nat) : Int)) (does_rem (t := 3) (t2 := 3) (x := .tmp 33) (y := .tmp 34) (k := .i64) (a := (((ii : Nat) : Int) + 0)) (b := ((ps.length : Nat) : Int)) (by kernel_rfl) (by kernel_rfl) (by kernel_rfl) (by omega)) ((show (Int.tmod (((ii : Nat) : Int) + 0) ((ps.length : Nat) : Int)) = ((j : Nat) : Int) from (by rw [← hj]; exact rfl)))) <|
            .p (does_indexSlice (t := 37) (x := .tmp 28) (y := .tmp 35) (k := 0) (off := 0) (n := ps.length) (c := 0) (z := 2) (kd := .i64) (j := ((j : Nat) : Int)) (by kernel_rfl) (by kernel_rfl) (by kernel_rfl) (by kernel_rfl) (by kernel_rfl) (by omega) (by omega)) <|
            .p (does_load (t := 24) (x := .tmp 36) (k := 0) (off := (0 + (((j : Nat) : Int)).toNat * 2)) (b := ⟨(ps.flatMap ptc), 24, false, 2⟩) (v := .agg #[.int .i64 ((ps.getD j (0, 0)).1), .int .i64 ((ps.getD j (0, 0)).2)]) (by kernel_rfl) (by kernel_rfl) (by kernel_rfl) (ldV_pair (j := j) (by kernel_rfl) (by kernel_rfl) (by omega) (by omega))) <|
            .a 1 4 <| .p (does_ap 5) <| .a 1 6 <| .nil _ _) ?_
          refine block_normal ?_
          refine then_normal ?_
          have hone : (Sp.stepL ps m 1 1).flatMap ptc = [.int .i64 ((ps.getD j (0, 0)).1), .int .i64 ((ps.getD j (0, 0)).2)] := Sp.stepL_one (by rw [← hie]; exact hj) rfl
          refine aw_w [(1, .pointer (some ⟨2, 0, none⟩)), (3, .int .i64 ((ps.length : Nat) : Int)), (4, .pointer (some ⟨3, 0, none⟩)), (5, .int .i64 1), (6, .slice (some ⟨5, 0, none⟩) 1 0), (23, .int .i64 ((ps.length : Nat) : Int)), (24, .int .i64 0)] [(0, ⟨(ps.flatMap ptc), 24, false, 2⟩), (2, ⟨[.slice (some ⟨0, 0, none⟩) ps.length 0], 37, true, 1⟩), (3, ⟨[.int .i64 ((ii : Nat) : Int)], 3, true, 1⟩), (5, ⟨((Sp.stepL ps m 1 1).flatMap ptc), 24, true, 2⟩)] ?_ (by kernel_rfl) (by rw [hone]; kernel_rfl) (hc := (by simp [closedB, valsB, valB, List.all_eq_true, List.mem_flatMap, List.mem_range, List.mem_map, i64v, ptc, flat1]; try (intros; simp [valsB, valB, flat1]); try decide))
          refine aw_p1 (
            .a 2 6 <| .nil _ _) ?_
          refine then_normal ?_
          refine al_w [(1, .pointer (some ⟨2, 0, none⟩)), (3, .int .i64 ((ps.length : Nat) : Int)), (4, .pointer (some ⟨3, 0, none⟩)), (5, .int .i64 1), (6, .slice (some ⟨5, 0, none⟩) 1 0), (23, .int .i64 ((ps.length : Nat) : Int)), (24, .int .i64 ((1 : Nat) : Int))] [(0, ⟨(ps.flatMap ptc), 24, false, 2⟩), (2, ⟨[.slice (some ⟨0, 0, none⟩) ps.length 0], 37, true, 1⟩), (3, ⟨[.int .i64 ((ii : Nat) : Int)], 3, true, 1⟩), (5, ⟨((Sp.stepL ps m 1 1).flatMap ptc), 24, true, 2⟩)] ?_ (hc := (by simp [closedB, valsB, valB, List.all_eq_true, List.mem_flatMap, List.mem_range, List.mem_map, i64v, ptc, flat1]; try (intros; simp [valsB, valB, flat1]); try decide))
          refine al_ind (fun i : Nat => (fun (q : Nat) => mkSt 1 [(1, .pointer (some ⟨2, 0, none⟩)), (3, .int .i64 ((ps.length : Nat) : Int)), (4, .pointer (some ⟨3, 0, none⟩)), (5, .int .i64 1), (6, .slice (some ⟨5, 0, none⟩) q 0), (23, .int .i64 ((ps.length : Nat) : Int)), (24, .int .i64 ((q : Nat) : Int))] [(0, ⟨(ps.flatMap ptc), 24, false, 2⟩), (2, ⟨[.slice (some ⟨0, 0, none⟩) ps.length 0], 37, true, 1⟩), (3, ⟨[.int .i64 ((ii : Nat) : Int)], 3, true, 1⟩), (5, ⟨((Sp.stepL ps m 1 q).flatMap ptc), 24, true, 2⟩)]) i) (fun i : Nat => (fun (q : Nat) => (1 ≤ q ∧ q ≤ ps.length)) i) (fun i : Nat => (fun (q : Nat) => ps.length - q) i) (fun i hi3 ih3 => ?_) 1 (show (1 ≤ 1 ∧ 1 ≤ ps.length) from by omega)
          obtain ⟨q, hv3⟩ : ∃ z, z = i := ⟨i, rfl⟩; subst hv3
          have hi3' : (1 ≤ q ∧ q ≤ ps.length) := hi3
          have hq : 1 ≤ q ∧ q ≤ ps.length := hi3'
          show AL _ _ _ (mkSt 1 [(1, .pointer (some ⟨2, 0, none⟩)), (3, .int .i64 ((ps.length : Nat) : Int)), (4, .pointer (some ⟨3, 0, none⟩)), (5, .int .i64 1), (6, .slice (some ⟨5, 0, none⟩) q 0), (23, .int .i64 ((ps.length : Nat) : Int)), (24, .int .i64 ((q : Nat) : Int))] [(0, ⟨(ps.flatMap ptc), 24, false, 2⟩), (2, ⟨[.slice (some ⟨0, 0, none⟩) ps.length 0], 37, true, 1⟩), (3, ⟨[.int .i64 ((ii : Nat) : Int)], 3, true, 1⟩), (5, ⟨((Sp.stepL ps m 1 q).flatMap ptc), 24, true, 2⟩)]) _
          refine al_round ?_
          refine aw_p 1964015 (
            .a 1 6 <| .nil _ _) ?_
          refine aw_sq 3928030 3928031 ?_
          refine aw_cd 7856060 7856061 (decide (((q : Nat) : Int) < ((ps.length : Nat) : Int))) (fun h7 => ?_) (fun h7 => ?_)
          · have h7p : ((((q : Nat) : Int) < ((ps.length : Nat) : Int))) := by first | (simpa using h7) | (have h7q := h7; simp at h7q; omega) | (have h7q := bx1 h7; simp at h7q; omega)
            have hql : q < ps.length := by omega
            have hmul : q * 1 ≤ 16777216 := Nat.le_trans (Nat.mul_le_mul (show q ≤ 4096 by omega) (show 1 ≤ 4096 by omega)) (by decide)
            obtain ⟨j, hj⟩ : ∃ j, (ii + q * 1) % ps.length = j := ⟨_, rfl⟩; have hjl : j < ps.length := hj ▸ Nat.mod_lt _ (by omega)
            refine aw_sk ?_
            refine then_normal ?_
            refine aw_sq 7856062 7856063 ?_
            refine aw_bl 3 15712125 ?_
            refine aw_p 31424251 (
              .a 2 6 <| .nil _ _) ?_
            refine aw_d1 (
              .a 5 6 <| .p (does_i ((q * 1 : Nat) : Int) ((show (IntKind.wrap .i64 (((q : Nat) : Int) * 1)) = ((q * 1 : Nat) : Int) from (by show IntKind.wrap .i64 (((q : Nat) : Int) * ((1 : Nat) : Int)) = _; rw [← Int.natCast_mul]; exact wrap_i64 (by omega) (by omega)))) .i64) <|
              .p (does_i (((ii : Nat) : Int) + ((q * 1 : Nat) : Int)) (wrap_i64 (by omega) (by omega)) .i64) <| .a 1 6 <|
              .p (does_int (n' := ((j : Nat) : Int)) (does_rem (t := 3) (t2 := 3) (x := .tmp 33) (y := .tmp 34) (k := .i64) (a := (((ii : Nat) : Int) + ((q * 1 : Nat) : Int))) (b := ((ps.length : Nat) : Int)) (by kernel_rfl) (by kernel_rfl) (by kernel_rfl) (by omega)) ((show (Int.tmod (((ii : Nat) : Int) + ((q * 1 : Nat) : Int)) ((ps.length : Nat) : Int)) = ((j : Nat) : Int) from (by rw [← hj]; exact rfl)))) <|
              .p (does_indexSlice (t := 37) (x := .tmp 28) (y := .tmp 35) (k := 0) (off := 0) (n := ps.length) (c := 0) (z := 2) (kd := .i64) (j := ((j : Nat) : Int)) (by kernel_rfl) (by kernel_rfl) (by kernel_rfl) (by kernel_rfl) (by kernel_rfl) (by omega) (by omega)) <|
              .p (does_load (t := 24) (x := .tmp 36) (k := 0) (off := (0 + (((j : Nat) : Int)).toNat * 2)) (b := ⟨(ps.flatMap ptc), 24, false, 2⟩) (v := .agg #[.int .i64 ((ps.getD j (0, 0)).1), .int .i64 ((ps.getD j (0, 0)).2)]) (by kernel_rfl) (by kernel_rfl) (by kernel_rfl) (ldV_pair (j := j) (by kernel_rfl) (by kernel_rfl) (by omega) (by omega))) <|
              .a 1 6 <|
              .p (does_apy 7 24 2 16 5 q 6 1 ⟨((Sp.stepL ps m 1 q).flatMap ptc), 24, true, 2⟩ ⟨[.int .i64 ((ps.getD j (0, 0)).1), .int .i64 ((ps.getD j (0, 0)).2)], 24, true, 2⟩ ((Sp.stepL ps m 1 (q + 1)).flatMap ptc) (by kernel_rfl) (by kernel_rfl) (by kernel_rfl) (by kernel_rfl) (by kernel_rfl) (by rw [pairs_length]; simp [Sp.stepL]; omega) (by omega) (by omega) (Sp.stepL_next (by rw [← hie]; exact hj) rfl)) <|
              .a 1 8 <| .nil _ _) ?_
            refine block_normal ?_
            refine then_normal ?_
            refine aw_p1 (
              .p (does_i (((q : Nat) : Int) + 1) (wrap_i64 (by omega) (by omega)) .i64) <| .a 1 8 <| .nil _ _) ?_
            refine then_normal ?_
            refine al_r [(5, 7)] [(1, .pointer (some ⟨2, 0, none⟩)), (3, .int .i64 ((ps.length : Nat) : Int)), (4, .pointer (some ⟨3, 0, none⟩)), (5, .int .i64 1), (6, .slice (some ⟨7, 0, none⟩) (q + 1) 0), (23, .int .i64 ((ps.length : Nat) : Int)), (24, .int .i64 (((q + 1) : Nat) : Int))] [(0, ⟨(ps.flatMap ptc), 24, false, 2⟩), (2, ⟨[.slice (some ⟨0, 0, none⟩) ps.length 0], 37, true, 1⟩), (3, ⟨[.int .i64 ((ii : Nat) : Int)], 3, true, 1⟩), (7, ⟨((Sp.stepL ps m 1 (q + 1)).flatMap ptc), 24, true, 2⟩)] [(1, .pointer (some ⟨2, 0, none⟩)), (3, .int .i64 ((ps.length : Nat) : Int)), (4, .pointer (some ⟨3, 0, none⟩)), (5, .int .i64 1), (6, .slice (some ⟨5, 0, none⟩) (q + 1) 0), (23, .int .i64 ((ps.length : Nat) : Int)), (24, .int .i64 (((q + 1) : Nat) : Int))] [(0, ⟨(ps.flatMap ptc), 24, false, 2⟩), (2, ⟨[.slice (some ⟨0, 0, none⟩) ps.length 0], 37, true, 1⟩), (3, ⟨[.int .i64 ((ii : Nat) : Int)], 3, true, 1⟩), (5, ⟨((Sp.stepL ps m 1 (q + 1)).flatMap ptc), 24, true, 2⟩)] ?_ ⟨rfl, (.ptr _ _ rfl), rfl, (.flatB (by kernel_rfl)), rfl, (.ptr _ _ rfl), rfl, (.flatB (by kernel_rfl)), rfl, (.slice _ _ _ _ _ rfl), rfl, (.flatB (by kernel_rfl)), rfl, (.flatB (by kernel_rfl)), trivial⟩ ⟨rfl, ⟨rfl, rfl, rfl, (.flats (flats_pair _))⟩, rfl, ⟨rfl, rfl, rfl, (.cons (.slice _ _ _ _ _ rfl) .nil)⟩, rfl, ⟨rfl, rfl, rfl, (.flats (by kernel_rfl))⟩, rfl, ⟨rfl, rfl, rfl, (.flats (flats_pair _))⟩, trivial⟩
            exact ih3 (q + 1) (show (1 ≤ (q + 1) ∧ (q + 1) ≤ ps.length) from by omega) (show ps.length - (q + 1) < ps.length - q from by omega)
          · have h7p : ¬ ((((q : Nat) : Int) < ((ps.length : Nat) : Int))) := by first | (simpa using h7) | (have h7q := h7; simp at h7q; omega) | (have h7q := bx2 h7; simp at h7q; omega)
            have hqe : q = ps.length := by omega
            refine aw_ex 2 ?_
            refine then_exit ?_
            refine then_exit ?_
            refine block_exit ?_
            refine then_normal ?_
            refine aw_p 245503 (
              .a 2 6 <| .nil _ _) ?_
            subst hqe
            refine aw_w [(1, .pointer (some ⟨2, 0, none⟩)), (2, .slice (some ⟨5, 0, none⟩) ps.length 0), (3, .int .i64 ((ps.length : Nat) : Int)), (4, .pointer (some ⟨3, 0, none⟩)), (5, .int .i64 1), (6, .slice (some ⟨5, 0, none⟩) ps.length 0), (23, .int .i64 ((ps.length : Nat) : Int)), (24, .int .i64 ((ps.length : Nat) : Int)), (25, .bool (decide (((ps.length : Nat) : Int) < ((ps.length : Nat) : Int)))), (41, .slice (some ⟨5, 0, none⟩) ps.length 0)] [(0, ⟨(ps.flatMap ptc), 24, false, 2⟩), (2, ⟨[.slice (some ⟨0, 0, none⟩) ps.length 0], 37, true, 1⟩), (3, ⟨[.int .i64 ((ii : Nat) : Int)], 3, true, 1⟩), (5, ⟨((Sp.nrmL ps m).flatMap ptc), 24, true, 2⟩)] ?_ (by kernel_rfl) (by rw [← (Sp.nrm_step hm).2 ht]; kernel_rfl) (hc := (by simp [closedB, valsB, valB, List.all_eq_true, List.mem_flatMap, List.mem_range, List.mem_map, i64v, ptc, flat1]; try (intros; simp [valsB, valB, flat1]); try decide))
            refine aw_r [(1, 5)] [(2, .slice (some ⟨5, 0, none⟩) ps.length 0)] [(0, ⟨(ps.flatMap ptc), 24, false, 2⟩), (5, ⟨((Sp.nrmL ps m).flatMap ptc), 24, true, 2⟩)] [(2, .slice (some ⟨1, 0, none⟩) ps.length 0)] [(0, ⟨(ps.flatMap ptc), 24, false, 2⟩), (1, ⟨((Sp.nrmL ps m).flatMap ptc), 24, true, 2⟩)] ?_ ⟨rfl, (.slice _ _ _ _ _ rfl), trivial⟩ ⟨rfl, ⟨rfl, rfl, rfl, (.flats (flats_pair _))⟩, rfl, ⟨rfl, rfl, rfl, (.flats (flats_pair _))⟩, trivial⟩
            refine aw_rt ?_
            refine block_ret ?_
            refine then_ret ?_
            refine then_ret ?_
            refine block_ret ?_
            refine then_ret ?_
            exact en_ret [.slice (some ⟨1, 0, none⟩) ps.length 0] (by kernel_rfl)
        · have h6p : ¬ ((0 < ((ps.length : Nat) : Int))) := by first | (simpa using h6) | (have h6q := h6; simp at h6q; omega) | (have h6q := bx2 h6; simp at h6q; omega)
          exact absurd hn (by omega)
  · have h1p : ¬ ((((ii : Nat) : Int) < ((ps.length : Nat) : Int))) := by first | (simpa using h1) | (have h1q := h1; simp at h1q; omega) | (have h1q := bx2 h1; simp at h1q; omega)
    exact absurd hm (by omega)


end Go.Proofs.Ytigllakcfdoagaa.Am
