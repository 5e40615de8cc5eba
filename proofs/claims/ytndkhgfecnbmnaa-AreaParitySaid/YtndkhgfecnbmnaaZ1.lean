/-
  The walks of sides and corners.
-/
import Derived.Test.YtndkhgfecnbmnaaProg
import Derived.Test.YtndkhgfecnbmnaaAm16
import Derived.Test.YtndkhgfecnbmnaaRa3
import Derived.Test.YtndkhgfecnbmnaaAm21
import Derived.Test.YtndkhgfecnbmnaaSg3
namespace Go.Proofs.Ytndkhgfecnbmnaa.Am
open Go Go.Proofs
set_option maxRecDepth 100000
set_option maxHeartbeats 4000000
set_option linter.unusedVariables false
set_option linter.unusedSimpArgs false

theorem side_ok (ps qs : List (Int × Int)) (zps : 1 ≤ ps.length ∧ ps.length ≤ 200) (fps : Sp.Few 1000 ps) (zqs : 1 ≤ qs.length ∧ qs.length ≤ 200) (fqs : Sp.Few 1000 qs) (e0 : Nat) (hi : e0 < ps.length) :
    AC Try.prog 58 2 ([.slice (some ⟨0, 0, none⟩) ps.length 0, .int .i64 ((e0 : Nat) : Int), .slice (some ⟨1, 0, none⟩) qs.length 0]) [(0, ⟨(ps.flatMap ptc), 28, true, 2⟩), (1, ⟨(qs.flatMap ptc), 28, true, 2⟩)] (.int .i64 (Sp.sideF ps e0 qs)) [(0, ⟨(ps.flatMap ptc), 28, true, 2⟩), (1, ⟨(qs.flatMap ptc), 28, true, 2⟩)] := by
  obtain ⟨e2, hi2⟩ : ∃ j, (e0 + 1) % ps.length = j := ⟨_, rfl⟩; have hi2l : e2 < ps.length := hi2 ▸ Nat.mod_lt _ (by omega); have fi := fps e0; have fj := fps e2; have hs : Sp.sdF qs ((ps.getD e0 (0, 0)).1 + (ps.getD e2 (0, 0)).1) ((ps.getD e0 (0, 0)).2 + (ps.getD e2 (0, 0)).2) = Sp.sideF ps e0 qs := by unfold Sp.sideF; rw [hi2]
  refine ac_in Try.func58 (fun w0 W pin => ?_)
  refine aw_p 3 (
    .a 1 2 <| .nil _ _) ?_
  refine aw_d 7 (
    .a 2 2 <| .p (does_indexSlice (t := 30) (x := .tmp 15) (y := .tmp 16) (k := 0) (off := 0) (n := ps.length) (c := 0) (z := 2) (kd := .i64) (j := ((e0 : Nat) : Int)) (by kernel_rfl) (by kernel_rfl) (by kernel_rfl) (by kernel_rfl) (by kernel_rfl) (by omega) (by omega)) <|
    .p (does_load (t := 28) (x := .tmp 17) (k := 0) (off := (0 + (((e0 : Nat) : Int)).toNat * 2)) (b := ⟨(ps.flatMap ptc), 28, true, 2⟩) (v := .agg #[.int .i64 ((ps.getD e0 (0, 0)).1), .int .i64 ((ps.getD e0 (0, 0)).2)]) (by kernel_rfl) (by kernel_rfl) (by kernel_rfl) (ldV_pair (j := e0) (by kernel_rfl) (by kernel_rfl) (by omega) (by omega))) <|
    .a 2 2 <| .p (does_i (((e0 : Nat) : Int) + 1) (wrap_i64 (by omega) (by omega)) .i64) <| .a 2 2 <|
    .p (does_int (n' := ((e2 : Nat) : Int)) (does_rem (t := 3) (t2 := 3) (x := .tmp 21) (y := .tmp 23) (k := .i64) (a := (((e0 : Nat) : Int) + 1)) (b := ((ps.length : Nat) : Int)) (by kernel_rfl) (by kernel_rfl) (by kernel_rfl) (by omega)) ((show (Int.tmod (((e0 : Nat) : Int) + 1) ((ps.length : Nat) : Int)) = ((e2 : Nat) : Int) from (by rw [← hi2]; exact rfl)))) <|
    .p (does_indexSlice (t := 30) (x := .tmp 19) (y := .tmp 24) (k := 0) (off := 0) (n := ps.length) (c := 0) (z := 2) (kd := .i64) (j := ((e2 : Nat) : Int)) (by kernel_rfl) (by kernel_rfl) (by kernel_rfl) (by kernel_rfl) (by kernel_rfl) (by omega) (by omega)) <|
    .p (does_load (t := 28) (x := .tmp 25) (k := 0) (off := (0 + (((e2 : Nat) : Int)).toNat * 2)) (b := ⟨(ps.flatMap ptc), 28, true, 2⟩) (v := .agg #[.int .i64 ((ps.getD e2 (0, 0)).1), .int .i64 ((ps.getD e2 (0, 0)).2)]) (by kernel_rfl) (by kernel_rfl) (by kernel_rfl) (ldV_pair (j := e2) (by kernel_rfl) (by kernel_rfl) (by omega) (by omega))) <|
    .a 4 2 <| .nil _ _) ?_
  refine aw_p 15 (
    .a 4 4 <| .p (does_i (((ps.getD e0 (0, 0)).1) + ((ps.getD e2 (0, 0)).1)) (wrap_i64 (by omega) (by omega)) .i64) <| .a 4 4 <| .p (does_i (((ps.getD e0 (0, 0)).2) + ((ps.getD e2 (0, 0)).2)) (wrap_i64 (by omega) (by omega)) .i64) <| .a 3 4 <| .nil _ _) ?_
  refine aw_p 31 (
    .a 1 5 <| .nil _ _) ?_
  refine aw_sq 62 63 ?_
  refine aw_p 125 (
    .a 3 5 <| .nil _ _) ?_
  refine aw_bl 0 251 ?_
  refine aw_lp 503 ?_
  refine al_w [(2, .slice (some ⟨1, 0, none⟩) qs.length 0), (9, .pointer (some ⟨4, 0, none⟩)), (10, .int .i64 (-1)), (38, .slice (some ⟨1, 0, none⟩) qs.length 0), (39, .int .i64 ((qs.length : Nat) : Int)), (40, .int .i64 ((0 : Nat) : Int))] [(0, ⟨(ps.flatMap ptc), 28, true, 2⟩), (1, ⟨(qs.flatMap ptc), 28, true, 2⟩), (4, ⟨[.int .i64 ((ps.getD e0 (0, 0)).1 + (ps.getD e2 (0, 0)).1), .int .i64 ((ps.getD e0 (0, 0)).2 + (ps.getD e2 (0, 0)).2)], 28, true, 2⟩)] ?_ (hc := (by simp [closedB, valsB, valB, List.all_eq_true, List.mem_flatMap, List.mem_range, List.mem_map, i64v, ptc, flat1]; try (intros; simp [valsB, valB, flat1]); try decide))
  refine al_ind (fun i : Nat × Int => (fun (k : Nat) (out : Int) => mkSt 2 [(2, .slice (some ⟨1, 0, none⟩) qs.length 0), (9, .pointer (some ⟨4, 0, none⟩)), (10, .int .i64 out), (38, .slice (some ⟨1, 0, none⟩) qs.length 0), (39, .int .i64 ((qs.length : Nat) : Int)), (40, .int .i64 ((k : Nat) : Int))] [(0, ⟨(ps.flatMap ptc), 28, true, 2⟩), (1, ⟨(qs.flatMap ptc), 28, true, 2⟩), (4, ⟨[.int .i64 ((ps.getD e0 (0, 0)).1 + (ps.getD e2 (0, 0)).1), .int .i64 ((ps.getD e0 (0, 0)).2 + (ps.getD e2 (0, 0)).2)], 28, true, 2⟩)]) i.1 i.2) (fun i : Nat × Int => (fun (k : Nat) (out : Int) => (k ≤ qs.length) ∧ (-1 ≤ out ∧ out ≤ 1) ∧ (Sp.sdL qs ((ps.getD e0 (0, 0)).1 + (ps.getD e2 (0, 0)).1) ((ps.getD e0 (0, 0)).2 + (ps.getD e2 (0, 0)).2) (qs.length - k) k out = Sp.sdF qs ((ps.getD e0 (0, 0)).1 + (ps.getD e2 (0, 0)).1) ((ps.getD e0 (0, 0)).2 + (ps.getD e2 (0, 0)).2))) i.1 i.2) (fun i : Nat × Int => (fun (k : Nat) (out : Int) => qs.length - k) i.1 i.2) (fun i hi1 ih1 => ?_) (0, (-1)) (show (0 ≤ qs.length) ∧ (-1 ≤ (-1) ∧ (-1) ≤ 1) ∧ (Sp.sdL qs ((ps.getD e0 (0, 0)).1 + (ps.getD e2 (0, 0)).1) ((ps.getD e0 (0, 0)).2 + (ps.getD e2 (0, 0)).2) (qs.length - 0) 0 (-1) = Sp.sdF qs ((ps.getD e0 (0, 0)).1 + (ps.getD e2 (0, 0)).1) ((ps.getD e0 (0, 0)).2 + (ps.getD e2 (0, 0)).2)) from ⟨by omega, by omega, by rfl⟩)
  obtain ⟨k, out⟩ := i
  have hi1' : (k ≤ qs.length) ∧ (-1 ≤ out ∧ out ≤ 1) ∧ (Sp.sdL qs ((ps.getD e0 (0, 0)).1 + (ps.getD e2 (0, 0)).1) ((ps.getD e0 (0, 0)).2 + (ps.getD e2 (0, 0)).2) (qs.length - k) k out = Sp.sdF qs ((ps.getD e0 (0, 0)).1 + (ps.getD e2 (0, 0)).1) ((ps.getD e0 (0, 0)).2 + (ps.getD e2 (0, 0)).2)) := hi1
  obtain ⟨hk, ho, hh⟩ := hi1'
  show AL _ _ _ (mkSt 2 [(2, .slice (some ⟨1, 0, none⟩) qs.length 0), (9, .pointer (some ⟨4, 0, none⟩)), (10, .int .i64 out), (38, .slice (some ⟨1, 0, none⟩) qs.length 0), (39, .int .i64 ((qs.length : Nat) : Int)), (40, .int .i64 ((k : Nat) : Int))] [(0, ⟨(ps.flatMap ptc), 28, true, 2⟩), (1, ⟨(qs.flatMap ptc), 28, true, 2⟩), (4, ⟨[.int .i64 ((ps.getD e0 (0, 0)).1 + (ps.getD e2 (0, 0)).1), .int .i64 ((ps.getD e0 (0, 0)).2 + (ps.getD e2 (0, 0)).2)], 28, true, 2⟩)]) _
  refine al_round ?_
  refine aw_p 1007 (
    .a 1 5 <| .nil _ _) ?_
  refine aw_sq 2014 2015 ?_
  refine aw_cd 4028 4029 (decide (((k : Nat) : Int) < ((qs.length : Nat) : Int))) (fun h1 => ?_) (fun h1 => ?_)
  · have h1p : ((((k : Nat) : Int) < ((qs.length : Nat) : Int))) := by first | (simpa using h1) | (have h1q := h1; simp at h1q; omega) | (have h1q := bx1 h1; simp at h1q; omega)
    have hkl : k < qs.length := by omega
    obtain ⟨j, hj⟩ : ∃ j, (k + 1) % qs.length = j := ⟨_, rfl⟩; have hjl : j < qs.length := hj ▸ Nat.mod_lt _ (by omega); have g1 := fqs k; have g2 := fqs j; have p0 := Sp.mul_bd (a := ((qs.getD j (0, 0)).1 - (qs.getD k (0, 0)).1)) (b := (((ps.getD e0 (0, 0)).2 + (ps.getD e2 (0, 0)).2) - 2 * (qs.getD k (0, 0)).2)) (A := 2000) (B := 4000) (by omega) (by omega) (by omega) (by omega); have p1 := Sp.mul_bd (a := ((qs.getD j (0, 0)).2 - (qs.getD k (0, 0)).2)) (b := (((ps.getD e0 (0, 0)).1 + (ps.getD e2 (0, 0)).1) - 2 * (qs.getD k (0, 0)).1)) (A := 2000) (B := 4000) (by omega) (by omega) (by omega) (by omega); have p2 := Sp.mul_bd (a := ((qs.getD k (0, 0)).1 - (qs.getD j (0, 0)).1)) (b := (((ps.getD e0 (0, 0)).2 + (ps.getD e2 (0, 0)).2) - 2 * (qs.getD j (0, 0)).2)) (A := 2000) (B := 4000) (by omega) (by omega) (by omega) (by omega); have p3 := Sp.mul_bd (a := ((qs.getD k (0, 0)).2 - (qs.getD j (0, 0)).2)) (b := (((ps.getD e0 (0, 0)).1 + (ps.getD e2 (0, 0)).1) - 2 * (qs.getD j (0, 0)).1)) (A := 2000) (B := 4000) (by omega) (by omega) (by omega) (by omega)
    refine aw_sk ?_
    refine then_normal ?_
    refine aw_sq 4030 4031 ?_
    refine aw_bl 1 8061 ?_
    refine aw_p 16123 (
      .a 2 5 <| .nil _ _) ?_
    refine aw_d 32247 (
      .a 2 5 <| .p (does_indexSlice (t := 30) (x := .tmp 43) (y := .tmp 44) (k := 1) (off := 0) (n := qs.length) (c := 0) (z := 2) (kd := .i64) (j := ((k : Nat) : Int)) (by kernel_rfl) (by kernel_rfl) (by kernel_rfl) (by kernel_rfl) (by kernel_rfl) (by omega) (by omega)) <|
      .p (does_load (t := 28) (x := .tmp 45) (k := 1) (off := (0 + (((k : Nat) : Int)).toNat * 2)) (b := ⟨(qs.flatMap ptc), 28, true, 2⟩) (v := .agg #[.int .i64 ((qs.getD k (0, 0)).1), .int .i64 ((qs.getD k (0, 0)).2)]) (by kernel_rfl) (by kernel_rfl) (by kernel_rfl) (ldV_pair (j := k) (by kernel_rfl) (by kernel_rfl) (by omega) (by omega))) <|
      .a 2 5 <| .p (does_i (((k : Nat) : Int) + 1) (wrap_i64 (by omega) (by omega)) .i64) <| .a 2 5 <|
      .p (does_int (n' := ((j : Nat) : Int)) (does_rem (t := 3) (t2 := 3) (x := .tmp 49) (y := .tmp 51) (k := .i64) (a := (((k : Nat) : Int) + 1)) (b := ((qs.length : Nat) : Int)) (by kernel_rfl) (by kernel_rfl) (by kernel_rfl) (by omega)) ((show (Int.tmod (((k : Nat) : Int) + 1) ((qs.length : Nat) : Int)) = ((j : Nat) : Int) from (by rw [← hj]; exact rfl)))) <|
      .p (does_indexSlice (t := 30) (x := .tmp 47) (y := .tmp 52) (k := 1) (off := 0) (n := qs.length) (c := 0) (z := 2) (kd := .i64) (j := ((j : Nat) : Int)) (by kernel_rfl) (by kernel_rfl) (by kernel_rfl) (by kernel_rfl) (by kernel_rfl) (by omega) (by omega)) <|
      .p (does_load (t := 28) (x := .tmp 53) (k := 1) (off := (0 + (((j : Nat) : Int)).toNat * 2)) (b := ⟨(qs.flatMap ptc), 28, true, 2⟩) (v := .agg #[.int .i64 ((qs.getD j (0, 0)).1), .int .i64 ((qs.getD j (0, 0)).2)]) (by kernel_rfl) (by kernel_rfl) (by kernel_rfl) (ldV_pair (j := j) (by kernel_rfl) (by kernel_rfl) (by omega) (by omega))) <|
      .a 4 5 <| .nil _ _) ?_
    refine aw_sq 64494 64495 ?_
    refine aw_p 128989 (
      .a 5 7 <| .nil _ _) ?_
    refine aw_cd 257978 257979 (decide (((qs.getD k (0, 0)).2) > ((qs.getD j (0, 0)).2))) (fun h2 => ?_) (fun h2 => ?_)
    · have h2p : ((((qs.getD k (0, 0)).2) > ((qs.getD j (0, 0)).2))) := by first | (simpa using h2) | (have h2q := h2; simp at h2q; omega) | (have h2q := bx1 h2; simp at h2q; omega)
      refine aw_p1 (
        .a 4 7 <| .nil _ _) ?_
      refine then_normal ?_
      refine aw_p 128991 (
        .a 4 7 <| .p (does_i (((qs.getD k (0, 0)).1) - ((qs.getD j (0, 0)).1)) (wrap_i64 (by omega) (by omega)) .i64) <| .a 4 7 <| .p (does_i (2 * ((qs.getD j (0, 0)).2)) (wrap_i64 (by omega) (by omega)) .i64) <|
        .p (does_i (((ps.getD e0 (0, 0)).2 + (ps.getD e2 (0, 0)).2) - (2 * ((qs.getD j (0, 0)).2))) (wrap_i64 (by omega) (by omega)) .i64) <|
        .p (does_i ((((qs.getD k (0, 0)).1) - ((qs.getD j (0, 0)).1)) * (((ps.getD e0 (0, 0)).2 + (ps.getD e2 (0, 0)).2) - (2 * ((qs.getD j (0, 0)).2)))) (wrap_i64 (by omega) (by omega)) .i64) <| .a 4 7 <| .p (does_i (((qs.getD k (0, 0)).2) - ((qs.getD j (0, 0)).2)) (wrap_i64 (by omega) (by omega)) .i64) <|
        .a 4 7 <| .p (does_i (2 * ((qs.getD j (0, 0)).1)) (wrap_i64 (by omega) (by omega)) .i64) <| .p (does_i (((ps.getD e0 (0, 0)).1 + (ps.getD e2 (0, 0)).1) - (2 * ((qs.getD j (0, 0)).1))) (wrap_i64 (by omega) (by omega)) .i64) <|
        .p (does_i ((((qs.getD k (0, 0)).2) - ((qs.getD j (0, 0)).2)) * (((ps.getD e0 (0, 0)).1 + (ps.getD e2 (0, 0)).1) - (2 * ((qs.getD j (0, 0)).1)))) (wrap_i64 (by omega) (by omega)) .i64) <|
        .p (does_i (((((qs.getD k (0, 0)).1) - ((qs.getD j (0, 0)).1)) * (((ps.getD e0 (0, 0)).2 + (ps.getD e2 (0, 0)).2) - (2 * ((qs.getD j (0, 0)).2)))) - ((((qs.getD k (0, 0)).2) - ((qs.getD j (0, 0)).2)) * (((ps.getD e0 (0, 0)).1 + (ps.getD e2 (0, 0)).1) - (2 * ((qs.getD j (0, 0)).1))))) (wrap_i64 (by omega) (by omega)) .i64) <|
        .a 1 7 <| .nil _ _) ?_
      rcases Bool.eq_false_or_eq_true (decide ((2 * ((qs.getD j (0, 0)).2)) < ((ps.getD e0 (0, 0)).2 + (ps.getD e2 (0, 0)).2))) with h3 | h3
      · have h3p : (((2 * ((qs.getD j (0, 0)).2)) < ((ps.getD e0 (0, 0)).2 + (ps.getD e2 (0, 0)).2))) := by first | (simpa using h3) | (have h3q := h3; simp at h3q; omega) | (have h3q := bx1 h3; simp at h3q; omega)
        rcases Bool.eq_false_or_eq_true (decide (((ps.getD e0 (0, 0)).2 + (ps.getD e2 (0, 0)).2) ≤ (2 * ((qs.getD k (0, 0)).2)))) with h4 | h4
        · have h4p : ((((ps.getD e0 (0, 0)).2 + (ps.getD e2 (0, 0)).2) ≤ (2 * ((qs.getD k (0, 0)).2)))) := by first | (simpa using h4) | (have h4q := h4; simp at h4q; omega) | (have h4q := bx1 h4; simp at h4q; omega)
          refine aw_p 257983 (
            .a 2 7 <| .p (does_i (2 * ((qs.getD j (0, 0)).2)) (wrap_i64 (by omega) (by omega)) .i64) <| .a 2 7 <| .p (does_b true (h3)) <| .a 5 7 <| .p (does_i (2 * ((qs.getD k (0, 0)).2)) (wrap_i64 (by omega) (by omega)) .i64) <| .p (does_b true (h4)) <| .a 5 7 <| .nil _ _) ?_
          refine aw_cd 515966 515967 (decide ((((((qs.getD k (0, 0)).1) - ((qs.getD j (0, 0)).1)) * (((ps.getD e0 (0, 0)).2 + (ps.getD e2 (0, 0)).2) - (2 * ((qs.getD j (0, 0)).2)))) - ((((qs.getD k (0, 0)).2) - ((qs.getD j (0, 0)).2)) * (((ps.getD e0 (0, 0)).1 + (ps.getD e2 (0, 0)).1) - (2 * ((qs.getD j (0, 0)).1))))) > 0)) (fun h5 => ?_) (fun h5 => ?_)
          · have h5p : (((((((qs.getD k (0, 0)).1) - ((qs.getD j (0, 0)).1)) * (((ps.getD e0 (0, 0)).2 + (ps.getD e2 (0, 0)).2) - (2 * ((qs.getD j (0, 0)).2)))) - ((((qs.getD k (0, 0)).2) - ((qs.getD j (0, 0)).2)) * (((ps.getD e0 (0, 0)).1 + (ps.getD e2 (0, 0)).1) - (2 * ((qs.getD j (0, 0)).1))))) > 0)) := by first | (simpa using h5) | (have h5q := h5; simp at h5q; omega) | (have h5q := bx1 h5; simp at h5q; omega)
            refine aw_p1 (
              .a 1 7 <| .p (does_i (0 - out) (wrap_i64 (by omega) (by omega)) .i64) <| .a 1 7 <| .nil _ _) ?_
            refine block_normal ?_
            refine then_normal ?_
            refine aw_p1 (
              .p (does_i (((k : Nat) : Int) + 1) (wrap_i64 (by omega) (by omega)) .i64) <| .a 1 7 <| .nil _ _) ?_
            refine then_normal ?_
            refine al_w [(2, .slice (some ⟨1, 0, none⟩) qs.length 0), (9, .pointer (some ⟨4, 0, none⟩)), (10, .int .i64 (0 - out)), (38, .slice (some ⟨1, 0, none⟩) qs.length 0), (39, .int .i64 ((qs.length : Nat) : Int)), (40, .int .i64 (((k + 1) : Nat) : Int))] [(0, ⟨(ps.flatMap ptc), 28, true, 2⟩), (1, ⟨(qs.flatMap ptc), 28, true, 2⟩), (4, ⟨[.int .i64 ((ps.getD e0 (0, 0)).1 + (ps.getD e2 (0, 0)).1), .int .i64 ((ps.getD e0 (0, 0)).2 + (ps.getD e2 (0, 0)).2)], 28, true, 2⟩)] ?_ (hc := (by simp [closedB, valsB, valB, List.all_eq_true, List.mem_flatMap, List.mem_range, List.mem_map, i64v, ptc, flat1]; try (intros; simp [valsB, valB, flat1]); try decide))
            exact ih1 ((k + 1), (0 - out)) (show ((k + 1) ≤ qs.length) ∧ (-1 ≤ (0 - out) ∧ (0 - out) ≤ 1) ∧ (Sp.sdL qs ((ps.getD e0 (0, 0)).1 + (ps.getD e2 (0, 0)).1) ((ps.getD e0 (0, 0)).2 + (ps.getD e2 (0, 0)).2) (qs.length - (k + 1)) (k + 1) (0 - out) = Sp.sdF qs ((ps.getD e0 (0, 0)).1 + (ps.getD e2 (0, 0)).1) ((ps.getD e0 (0, 0)).2 + (ps.getD e2 (0, 0)).2)) from ⟨by omega, by omega, by (rw [← hh]; first | exact Sp.sd_no hkl hj ((Sp.sdX_s (by assumption)).trans (Sp.sdX0_1 (by assumption))) | exact Sp.sd_no hkl hj ((Sp.sdX_s (by assumption)).trans (Sp.sdX0_2 (by assumption) (by assumption))) | exact Sp.sd_no hkl hj ((Sp.sdX_s (by assumption)).trans (Sp.sdX0_3 (by assumption) (by assumption) (by assumption))) | exact Sp.sd_cr hkl hj ((Sp.sdX_s (by assumption)).trans (Sp.sdX0_4 (by assumption) (by assumption) (by assumption))) | exact Sp.sd_no hkl hj ((Sp.sdX_n (by assumption)).trans (Sp.sdX0_1 (by assumption))) | exact Sp.sd_no hkl hj ((Sp.sdX_n (by assumption)).trans (Sp.sdX0_2 (by assumption) (by assumption))) | exact Sp.sd_no hkl hj ((Sp.sdX_n (by assumption)).trans (Sp.sdX0_3 (by assumption) (by assumption) (by assumption))) | exact Sp.sd_cr hkl hj ((Sp.sdX_n (by assumption)).trans (Sp.sdX0_4 (by assumption) (by assumption) (by assumption))))⟩) (show qs.length - (k + 1) < qs.length - k from by omega)
          · have h5p : ¬ (((((((qs.getD k (0, 0)).1) - ((qs.getD j (0, 0)).1)) * (((ps.getD e0 (0, 0)).2 + (ps.getD e2 (0, 0)).2) - (2 * ((qs.getD j (0, 0)).2)))) - ((((qs.getD k (0, 0)).2) - ((qs.getD j (0, 0)).2)) * (((ps.getD e0 (0, 0)).1 + (ps.getD e2 (0, 0)).1) - (2 * ((qs.getD j (0, 0)).1))))) > 0)) := by first | (simpa using h5) | (have h5q := h5; simp at h5q; omega) | (have h5q := bx2 h5; simp at h5q; omega)
            refine aw_sk ?_
            refine block_normal ?_
            refine then_normal ?_
            refine aw_p1 (
              .p (does_i (((k : Nat) : Int) + 1) (wrap_i64 (by omega) (by omega)) .i64) <| .a 1 7 <| .nil _ _) ?_
            refine then_normal ?_
            refine al_w [(2, .slice (some ⟨1, 0, none⟩) qs.length 0), (9, .pointer (some ⟨4, 0, none⟩)), (10, .int .i64 out), (38, .slice (some ⟨1, 0, none⟩) qs.length 0), (39, .int .i64 ((qs.length : Nat) : Int)), (40, .int .i64 (((k + 1) : Nat) : Int))] [(0, ⟨(ps.flatMap ptc), 28, true, 2⟩), (1, ⟨(qs.flatMap ptc), 28, true, 2⟩), (4, ⟨[.int .i64 ((ps.getD e0 (0, 0)).1 + (ps.getD e2 (0, 0)).1), .int .i64 ((ps.getD e0 (0, 0)).2 + (ps.getD e2 (0, 0)).2)], 28, true, 2⟩)] ?_ (hc := (by simp [closedB, valsB, valB, List.all_eq_true, List.mem_flatMap, List.mem_range, List.mem_map, i64v, ptc, flat1]; try (intros; simp [valsB, valB, flat1]); try decide))
            exact ih1 ((k + 1), out) (show ((k + 1) ≤ qs.length) ∧ (-1 ≤ out ∧ out ≤ 1) ∧ (Sp.sdL qs ((ps.getD e0 (0, 0)).1 + (ps.getD e2 (0, 0)).1) ((ps.getD e0 (0, 0)).2 + (ps.getD e2 (0, 0)).2) (qs.length - (k + 1)) (k + 1) out = Sp.sdF qs ((ps.getD e0 (0, 0)).1 + (ps.getD e2 (0, 0)).1) ((ps.getD e0 (0, 0)).2 + (ps.getD e2 (0, 0)).2)) from ⟨by omega, by omega, by (rw [← hh]; first | exact Sp.sd_no hkl hj ((Sp.sdX_s (by assumption)).trans (Sp.sdX0_1 (by assumption))) | exact Sp.sd_no hkl hj ((Sp.sdX_s (by assumption)).trans (Sp.sdX0_2 (by assumption) (by assumption))) | exact Sp.sd_no hkl hj ((Sp.sdX_s (by assumption)).trans (Sp.sdX0_3 (by assumption) (by assumption) (by assumption))) | exact Sp.sd_cr hkl hj ((Sp.sdX_s (by assumption)).trans (Sp.sdX0_4 (by assumption) (by assumption) (by assumption))) | exact Sp.sd_no hkl hj ((Sp.sdX_n (by assumption)).trans (Sp.sdX0_1 (by assumption))) | exact Sp.sd_no hkl hj ((Sp.sdX_n (by assumption)).trans (Sp.sdX0_2 (by assumption) (by assumption))) | exact Sp.sd_no hkl hj ((Sp.sdX_n (by assumption)).trans (Sp.sdX0_3 (by assumption) (by assumption) (by assumption))) | exact Sp.sd_cr hkl hj ((Sp.sdX_n (by assumption)).trans (Sp.sdX0_4 (by assumption) (by assumption) (by assumption))))⟩) (show qs.length - (k + 1) < qs.length - k from by omega)
        · have h4p : ¬ ((((ps.getD e0 (0, 0)).2 + (ps.getD e2 (0, 0)).2) ≤ (2 * ((qs.getD k (0, 0)).2)))) := by first | (simpa using h4) | (have h4q := h4; simp at h4q; omega) | (have h4q := bx2 h4; simp at h4q; omega)
          refine aw_p 257983 (
            .a 2 7 <| .p (does_i (2 * ((qs.getD j (0, 0)).2)) (wrap_i64 (by omega) (by omega)) .i64) <| .a 2 7 <| .p (does_b true (h3)) <| .a 5 7 <| .p (does_i (2 * ((qs.getD k (0, 0)).2)) (wrap_i64 (by omega) (by omega)) .i64) <| .p (does_b false (h4)) <| .a 5 7 <| .nil _ _) ?_
          refine aw_fl 515967 ?_
          refine aw_sk ?_
          refine block_normal ?_
          refine then_normal ?_
          refine aw_p1 (
            .p (does_i (((k : Nat) : Int) + 1) (wrap_i64 (by omega) (by omega)) .i64) <| .a 1 7 <| .nil _ _) ?_
          refine then_normal ?_
          refine al_w [(2, .slice (some ⟨1, 0, none⟩) qs.length 0), (9, .pointer (some ⟨4, 0, none⟩)), (10, .int .i64 out), (38, .slice (some ⟨1, 0, none⟩) qs.length 0), (39, .int .i64 ((qs.length : Nat) : Int)), (40, .int .i64 (((k + 1) : Nat) : Int))] [(0, ⟨(ps.flatMap ptc), 28, true, 2⟩), (1, ⟨(qs.flatMap ptc), 28, true, 2⟩), (4, ⟨[.int .i64 ((ps.getD e0 (0, 0)).1 + (ps.getD e2 (0, 0)).1), .int .i64 ((ps.getD e0 (0, 0)).2 + (ps.getD e2 (0, 0)).2)], 28, true, 2⟩)] ?_ (hc := (by simp [closedB, valsB, valB, List.all_eq_true, List.mem_flatMap, List.mem_range, List.mem_map, i64v, ptc, flat1]; try (intros; simp [valsB, valB, flat1]); try decide))
          exact ih1 ((k + 1), out) (show ((k + 1) ≤ qs.length) ∧ (-1 ≤ out ∧ out ≤ 1) ∧ (Sp.sdL qs ((ps.getD e0 (0, 0)).1 + (ps.getD e2 (0, 0)).1) ((ps.getD e0 (0, 0)).2 + (ps.getD e2 (0, 0)).2) (qs.length - (k + 1)) (k + 1) out = Sp.sdF qs ((ps.getD e0 (0, 0)).1 + (ps.getD e2 (0, 0)).1) ((ps.getD e0 (0, 0)).2 + (ps.getD e2 (0, 0)).2)) from ⟨by omega, by omega, by (rw [← hh]; first | exact Sp.sd_no hkl hj ((Sp.sdX_s (by assumption)).trans (Sp.sdX0_1 (by assumption))) | exact Sp.sd_no hkl hj ((Sp.sdX_s (by assumption)).trans (Sp.sdX0_2 (by assumption) (by assumption))) | exact Sp.sd_no hkl hj ((Sp.sdX_s (by assumption)).trans (Sp.sdX0_3 (by assumption) (by assumption) (by assumption))) | exact Sp.sd_cr hkl hj ((Sp.sdX_s (by assumption)).trans (Sp.sdX0_4 (by assumption) (by assumption) (by assumption))) | exact Sp.sd_no hkl hj ((Sp.sdX_n (by assumption)).trans (Sp.sdX0_1 (by assumption))) | exact Sp.sd_no hkl hj ((Sp.sdX_n (by assumption)).trans (Sp.sdX0_2 (by assumption) (by assumption))) | exact Sp.sd_no hkl hj ((Sp.sdX_n (by assumption)).trans (Sp.sdX0_3 (by assumption) (by assumption) (by assumption))) | exact Sp.sd_cr hkl hj ((Sp.sdX_n (by assumption)).trans (Sp.sdX0_4 (by assumption) (by assumption) (by assumption))))⟩) (show qs.length - (k + 1) < qs.length - k from by omega)
      · have h3p : ¬ (((2 * ((qs.getD j (0, 0)).2)) < ((ps.getD e0 (0, 0)).2 + (ps.getD e2 (0, 0)).2))) := by first | (simpa using h3) | (have h3q := h3; simp at h3q; omega) | (have h3q := bx2 h3; simp at h3q; omega)
        refine aw_p 257983 (
          .a 2 7 <| .p (does_i (2 * ((qs.getD j (0, 0)).2)) (wrap_i64 (by omega) (by omega)) .i64) <| .a 2 7 <| .p (does_b false (h3)) <| .a 12 7 <| .nil _ _) ?_
        refine aw_fl 515967 ?_
        refine aw_sk ?_
        refine block_normal ?_
        refine then_normal ?_
        refine aw_p1 (
          .p (does_i (((k : Nat) : Int) + 1) (wrap_i64 (by omega) (by omega)) .i64) <| .a 1 7 <| .nil _ _) ?_
        refine then_normal ?_
        refine al_w [(2, .slice (some ⟨1, 0, none⟩) qs.length 0), (9, .pointer (some ⟨4, 0, none⟩)), (10, .int .i64 out), (38, .slice (some ⟨1, 0, none⟩) qs.length 0), (39, .int .i64 ((qs.length : Nat) : Int)), (40, .int .i64 (((k + 1) : Nat) : Int))] [(0, ⟨(ps.flatMap ptc), 28, true, 2⟩), (1, ⟨(qs.flatMap ptc), 28, true, 2⟩), (4, ⟨[.int .i64 ((ps.getD e0 (0, 0)).1 + (ps.getD e2 (0, 0)).1), .int .i64 ((ps.getD e0 (0, 0)).2 + (ps.getD e2 (0, 0)).2)], 28, true, 2⟩)] ?_ (hc := (by simp [closedB, valsB, valB, List.all_eq_true, List.mem_flatMap, List.mem_range, List.mem_map, i64v, ptc, flat1]; try (intros; simp [valsB, valB, flat1]); try decide))
        exact ih1 ((k + 1), out) (show ((k + 1) ≤ qs.length) ∧ (-1 ≤ out ∧ out ≤ 1) ∧ (Sp.sdL qs ((ps.getD e0 (0, 0)).1 + (ps.getD e2 (0, 0)).1) ((ps.getD e0 (0, 0)).2 + (ps.getD e2 (0, 0)).2) (qs.length - (k + 1)) (k + 1) out = Sp.sdF qs ((ps.getD e0 (0, 0)).1 + (ps.getD e2 (0, 0)).1) ((ps.getD e0 (0, 0)).2 + (ps.getD e2 (0, 0)).2)) from ⟨by omega, by omega, by (rw [← hh]; first | exact Sp.sd_no hkl hj ((Sp.sdX_s (by assumption)).trans (Sp.sdX0_1 (by assumption))) | exact Sp.sd_no hkl hj ((Sp.sdX_s (by assumption)).trans (Sp.sdX0_2 (by assumption) (by assumption))) | exact Sp.sd_no hkl hj ((Sp.sdX_s (by assumption)).trans (Sp.sdX0_3 (by assumption) (by assumption) (by assumption))) | exact Sp.sd_cr hkl hj ((Sp.sdX_s (by assumption)).trans (Sp.sdX0_4 (by assumption) (by assumption) (by assumption))) | exact Sp.sd_no hkl hj ((Sp.sdX_n (by assumption)).trans (Sp.sdX0_1 (by assumption))) | exact Sp.sd_no hkl hj ((Sp.sdX_n (by assumption)).trans (Sp.sdX0_2 (by assumption) (by assumption))) | exact Sp.sd_no hkl hj ((Sp.sdX_n (by assumption)).trans (Sp.sdX0_3 (by assumption) (by assumption) (by assumption))) | exact Sp.sd_cr hkl hj ((Sp.sdX_n (by assumption)).trans (Sp.sdX0_4 (by assumption) (by assumption) (by assumption))))⟩) (show qs.length - (k + 1) < qs.length - k from by omega)
    · have h2p : ¬ ((((qs.getD k (0, 0)).2) > ((qs.getD j (0, 0)).2))) := by first | (simpa using h2) | (have h2q := h2; simp at h2q; omega) | (have h2q := bx2 h2; simp at h2q; omega)
      refine aw_sk ?_
      refine then_normal ?_
      refine aw_p 128991 (
        .a 4 7 <| .p (does_i (((qs.getD j (0, 0)).1) - ((qs.getD k (0, 0)).1)) (wrap_i64 (by omega) (by omega)) .i64) <| .a 4 7 <| .p (does_i (2 * ((qs.getD k (0, 0)).2)) (wrap_i64 (by omega) (by omega)) .i64) <|
        .p (does_i (((ps.getD e0 (0, 0)).2 + (ps.getD e2 (0, 0)).2) - (2 * ((qs.getD k (0, 0)).2))) (wrap_i64 (by omega) (by omega)) .i64) <|
        .p (does_i ((((qs.getD j (0, 0)).1) - ((qs.getD k (0, 0)).1)) * (((ps.getD e0 (0, 0)).2 + (ps.getD e2 (0, 0)).2) - (2 * ((qs.getD k (0, 0)).2)))) (wrap_i64 (by omega) (by omega)) .i64) <| .a 4 7 <| .p (does_i (((qs.getD j (0, 0)).2) - ((qs.getD k (0, 0)).2)) (wrap_i64 (by omega) (by omega)) .i64) <|
        .a 4 7 <| .p (does_i (2 * ((qs.getD k (0, 0)).1)) (wrap_i64 (by omega) (by omega)) .i64) <| .p (does_i (((ps.getD e0 (0, 0)).1 + (ps.getD e2 (0, 0)).1) - (2 * ((qs.getD k (0, 0)).1))) (wrap_i64 (by omega) (by omega)) .i64) <|
        .p (does_i ((((qs.getD j (0, 0)).2) - ((qs.getD k (0, 0)).2)) * (((ps.getD e0 (0, 0)).1 + (ps.getD e2 (0, 0)).1) - (2 * ((qs.getD k (0, 0)).1)))) (wrap_i64 (by omega) (by omega)) .i64) <|
        .p (does_i (((((qs.getD j (0, 0)).1) - ((qs.getD k (0, 0)).1)) * (((ps.getD e0 (0, 0)).2 + (ps.getD e2 (0, 0)).2) - (2 * ((qs.getD k (0, 0)).2)))) - ((((qs.getD j (0, 0)).2) - ((qs.getD k (0, 0)).2)) * (((ps.getD e0 (0, 0)).1 + (ps.getD e2 (0, 0)).1) - (2 * ((qs.getD k (0, 0)).1))))) (wrap_i64 (by omega) (by omega)) .i64) <|
        .a 1 7 <| .nil _ _) ?_
      rcases Bool.eq_false_or_eq_true (decide ((2 * ((qs.getD k (0, 0)).2)) < ((ps.getD e0 (0, 0)).2 + (ps.getD e2 (0, 0)).2))) with h6 | h6
      · have h6p : (((2 * ((qs.getD k (0, 0)).2)) < ((ps.getD e0 (0, 0)).2 + (ps.getD e2 (0, 0)).2))) := by first | (simpa using h6) | (have h6q := h6; simp at h6q; omega) | (have h6q := bx1 h6; simp at h6q; omega)
        rcases Bool.eq_false_or_eq_true (decide (((ps.getD e0 (0, 0)).2 + (ps.getD e2 (0, 0)).2) ≤ (2 * ((qs.getD j (0, 0)).2)))) with h7 | h7
        · have h7p : ((((ps.getD e0 (0, 0)).2 + (ps.getD e2 (0, 0)).2) ≤ (2 * ((qs.getD j (0, 0)).2)))) := by first | (simpa using h7) | (have h7q := h7; simp at h7q; omega) | (have h7q := bx1 h7; simp at h7q; omega)
          refine aw_p 257983 (
            .a 2 7 <| .p (does_i (2 * ((qs.getD k (0, 0)).2)) (wrap_i64 (by omega) (by omega)) .i64) <| .a 2 7 <| .p (does_b true (h6)) <| .a 5 7 <| .p (does_i (2 * ((qs.getD j (0, 0)).2)) (wrap_i64 (by omega) (by omega)) .i64) <| .p (does_b true (h7)) <| .a 5 7 <| .nil _ _) ?_
          refine aw_cd 515966 515967 (decide ((((((qs.getD j (0, 0)).1) - ((qs.getD k (0, 0)).1)) * (((ps.getD e0 (0, 0)).2 + (ps.getD e2 (0, 0)).2) - (2 * ((qs.getD k (0, 0)).2)))) - ((((qs.getD j (0, 0)).2) - ((qs.getD k (0, 0)).2)) * (((ps.getD e0 (0, 0)).1 + (ps.getD e2 (0, 0)).1) - (2 * ((qs.getD k (0, 0)).1))))) > 0)) (fun h8 => ?_) (fun h8 => ?_)
          · have h8p : (((((((qs.getD j (0, 0)).1) - ((qs.getD k (0, 0)).1)) * (((ps.getD e0 (0, 0)).2 + (ps.getD e2 (0, 0)).2) - (2 * ((qs.getD k (0, 0)).2)))) - ((((qs.getD j (0, 0)).2) - ((qs.getD k (0, 0)).2)) * (((ps.getD e0 (0, 0)).1 + (ps.getD e2 (0, 0)).1) - (2 * ((qs.getD k (0, 0)).1))))) > 0)) := by first | (simpa using h8) | (have h8q := h8; simp at h8q; omega) | (have h8q := bx1 h8; simp at h8q; omega)
            refine aw_p1 (
              .a 1 7 <| .p (does_i (0 - out) (wrap_i64 (by omega) (by omega)) .i64) <| .a 1 7 <| .nil _ _) ?_
            refine block_normal ?_
            refine then_normal ?_
            refine aw_p1 (
              .p (does_i (((k : Nat) : Int) + 1) (wrap_i64 (by omega) (by omega)) .i64) <| .a 1 7 <| .nil _ _) ?_
            refine then_normal ?_
            refine al_w [(2, .slice (some ⟨1, 0, none⟩) qs.length 0), (9, .pointer (some ⟨4, 0, none⟩)), (10, .int .i64 (0 - out)), (38, .slice (some ⟨1, 0, none⟩) qs.length 0), (39, .int .i64 ((qs.length : Nat) : Int)), (40, .int .i64 (((k + 1) : Nat) : Int))] [(0, ⟨(ps.flatMap ptc), 28, true, 2⟩), (1, ⟨(qs.flatMap ptc), 28, true, 2⟩), (4, ⟨[.int .i64 ((ps.getD e0 (0, 0)).1 + (ps.getD e2 (0, 0)).1), .int .i64 ((ps.getD e0 (0, 0)).2 + (ps.getD e2 (0, 0)).2)], 28, true, 2⟩)] ?_ (hc := (by simp [closedB, valsB, valB, List.all_eq_true, List.mem_flatMap, List.mem_range, List.mem_map, i64v, ptc, flat1]; try (intros; simp [valsB, valB, flat1]); try decide))
            exact ih1 ((k + 1), (0 - out)) (show ((k + 1) ≤ qs.length) ∧ (-1 ≤ (0 - out) ∧ (0 - out) ≤ 1) ∧ (Sp.sdL qs ((ps.getD e0 (0, 0)).1 + (ps.getD e2 (0, 0)).1) ((ps.getD e0 (0, 0)).2 + (ps.getD e2 (0, 0)).2) (qs.length - (k + 1)) (k + 1) (0 - out) = Sp.sdF qs ((ps.getD e0 (0, 0)).1 + (ps.getD e2 (0, 0)).1) ((ps.getD e0 (0, 0)).2 + (ps.getD e2 (0, 0)).2)) from ⟨by omega, by omega, by (rw [← hh]; first | exact Sp.sd_no hkl hj ((Sp.sdX_s (by assumption)).trans (Sp.sdX0_1 (by assumption))) | exact Sp.sd_no hkl hj ((Sp.sdX_s (by assumption)).trans (Sp.sdX0_2 (by assumption) (by assumption))) | exact Sp.sd_no hkl hj ((Sp.sdX_s (by assumption)).trans (Sp.sdX0_3 (by assumption) (by assumption) (by assumption))) | exact Sp.sd_cr hkl hj ((Sp.sdX_s (by assumption)).trans (Sp.sdX0_4 (by assumption) (by assumption) (by assumption))) | exact Sp.sd_no hkl hj ((Sp.sdX_n (by assumption)).trans (Sp.sdX0_1 (by assumption))) | exact Sp.sd_no hkl hj ((Sp.sdX_n (by assumption)).trans (Sp.sdX0_2 (by assumption) (by assumption))) | exact Sp.sd_no hkl hj ((Sp.sdX_n (by assumption)).trans (Sp.sdX0_3 (by assumption) (by assumption) (by assumption))) | exact Sp.sd_cr hkl hj ((Sp.sdX_n (by assumption)).trans (Sp.sdX0_4 (by assumption) (by assumption) (by assumption))))⟩) (show qs.length - (k + 1) < qs.length - k from by omega)
          · have h8p : ¬ (((((((qs.getD j (0, 0)).1) - ((qs.getD k (0, 0)).1)) * (((ps.getD e0 (0, 0)).2 + (ps.getD e2 (0, 0)).2) - (2 * ((qs.getD k (0, 0)).2)))) - ((((qs.getD j (0, 0)).2) - ((qs.getD k (0, 0)).2)) * (((ps.getD e0 (0, 0)).1 + (ps.getD e2 (0, 0)).1) - (2 * ((qs.getD k (0, 0)).1))))) > 0)) := by first | (simpa using h8) | (have h8q := h8; simp at h8q; omega) | (have h8q := bx2 h8; simp at h8q; omega)
            refine aw_sk ?_
            refine block_normal ?_
            refine then_normal ?_
            refine aw_p1 (
              .p (does_i (((k : Nat) : Int) + 1) (wrap_i64 (by omega) (by omega)) .i64) <| .a 1 7 <| .nil _ _) ?_
            refine then_normal ?_
            refine al_w [(2, .slice (some ⟨1, 0, none⟩) qs.length 0), (9, .pointer (some ⟨4, 0, none⟩)), (10, .int .i64 out), (38, .slice (some ⟨1, 0, none⟩) qs.length 0), (39, .int .i64 ((qs.length : Nat) : Int)), (40, .int .i64 (((k + 1) : Nat) : Int))] [(0, ⟨(ps.flatMap ptc), 28, true, 2⟩), (1, ⟨(qs.flatMap ptc), 28, true, 2⟩), (4, ⟨[.int .i64 ((ps.getD e0 (0, 0)).1 + (ps.getD e2 (0, 0)).1), .int .i64 ((ps.getD e0 (0, 0)).2 + (ps.getD e2 (0, 0)).2)], 28, true, 2⟩)] ?_ (hc := (by simp [closedB, valsB, valB, List.all_eq_true, List.mem_flatMap, List.mem_range, List.mem_map, i64v, ptc, flat1]; try (intros; simp [valsB, valB, flat1]); try decide))
            exact ih1 ((k + 1), out) (show ((k + 1) ≤ qs.length) ∧ (-1 ≤ out ∧ out ≤ 1) ∧ (Sp.sdL qs ((ps.getD e0 (0, 0)).1 + (ps.getD e2 (0, 0)).1) ((ps.getD e0 (0, 0)).2 + (ps.getD e2 (0, 0)).2) (qs.length - (k + 1)) (k + 1) out = Sp.sdF qs ((ps.getD e0 (0, 0)).1 + (ps.getD e2 (0, 0)).1) ((ps.getD e0 (0, 0)).2 + (ps.getD e2 (0, 0)).2)) from ⟨by omega, by omega, by (rw [← hh]; first | exact Sp.sd_no hkl hj ((Sp.sdX_s (by assumption)).trans (Sp.sdX0_1 (by assumption))) | exact Sp.sd_no hkl hj ((Sp.sdX_s (by assumption)).trans (Sp.sdX0_2 (by assumption) (by assumption))) | exact Sp.sd_no hkl hj ((Sp.sdX_s (by assumption)).trans (Sp.sdX0_3 (by assumption) (by assumption) (by assumption))) | exact Sp.sd_cr hkl hj ((Sp.sdX_s (by assumption)).trans (Sp.sdX0_4 (by assumption) (by assumption) (by assumption))) | exact Sp.sd_no hkl hj ((Sp.sdX_n (by assumption)).trans (Sp.sdX0_1 (by assumption))) | exact Sp.sd_no hkl hj ((Sp.sdX_n (by assumption)).trans (Sp.sdX0_2 (by assumption) (by assumption))) | exact Sp.sd_no hkl hj ((Sp.sdX_n (by assumption)).trans (Sp.sdX0_3 (by assumption) (by assumption) (by assumption))) | exact Sp.sd_cr hkl hj ((Sp.sdX_n (by assumption)).trans (Sp.sdX0_4 (by assumption) (by assumption) (by assumption))))⟩) (show qs.length - (k + 1) < qs.length - k from by omega)
        · have h7p : ¬ ((((ps.getD e0 (0, 0)).2 + (ps.getD e2 (0, 0)).2) ≤ (2 * ((qs.getD j (0, 0)).2)))) := by first | (simpa using h7) | (have h7q := h7; simp at h7q; omega) | (have h7q := bx2 h7; simp at h7q; omega)
          refine aw_p 257983 (
            .a 2 7 <| .p (does_i (2 * ((qs.getD k (0, 0)).2)) (wrap_i64 (by omega) (by omega)) .i64) <| .a 2 7 <| .p (does_b true (h6)) <| .a 5 7 <| .p (does_i (2 * ((qs.getD j (0, 0)).2)) (wrap_i64 (by omega) (by omega)) .i64) <| .p (does_b false (h7)) <| .a 5 7 <| .nil _ _) ?_
          refine aw_fl 515967 ?_
          refine aw_sk ?_
          refine block_normal ?_
          refine then_normal ?_
          refine aw_p1 (
            .p (does_i (((k : Nat) : Int) + 1) (wrap_i64 (by omega) (by omega)) .i64) <| .a 1 7 <| .nil _ _) ?_
          refine then_normal ?_
          refine al_w [(2, .slice (some ⟨1, 0, none⟩) qs.length 0), (9, .pointer (some ⟨4, 0, none⟩)), (10, .int .i64 out), (38, .slice (some ⟨1, 0, none⟩) qs.length 0), (39, .int .i64 ((qs.length : Nat) : Int)), (40, .int .i64 (((k + 1) : Nat) : Int))] [(0, ⟨(ps.flatMap ptc), 28, true, 2⟩), (1, ⟨(qs.flatMap ptc), 28, true, 2⟩), (4, ⟨[.int .i64 ((ps.getD e0 (0, 0)).1 + (ps.getD e2 (0, 0)).1), .int .i64 ((ps.getD e0 (0, 0)).2 + (ps.getD e2 (0, 0)).2)], 28, true, 2⟩)] ?_ (hc := (by simp [closedB, valsB, valB, List.all_eq_true, List.mem_flatMap, List.mem_range, List.mem_map, i64v, ptc, flat1]; try (intros; simp [valsB, valB, flat1]); try decide))
          exact ih1 ((k + 1), out) (show ((k + 1) ≤ qs.length) ∧ (-1 ≤ out ∧ out ≤ 1) ∧ (Sp.sdL qs ((ps.getD e0 (0, 0)).1 + (ps.getD e2 (0, 0)).1) ((ps.getD e0 (0, 0)).2 + (ps.getD e2 (0, 0)).2) (qs.length - (k + 1)) (k + 1) out = Sp.sdF qs ((ps.getD e0 (0, 0)).1 + (ps.getD e2 (0, 0)).1) ((ps.getD e0 (0, 0)).2 + (ps.getD e2 (0, 0)).2)) from ⟨by omega, by omega, by (rw [← hh]; first | exact Sp.sd_no hkl hj ((Sp.sdX_s (by assumption)).trans (Sp.sdX0_1 (by assumption))) | exact Sp.sd_no hkl hj ((Sp.sdX_s (by assumption)).trans (Sp.sdX0_2 (by assumption) (by assumption))) | exact Sp.sd_no hkl hj ((Sp.sdX_s (by assumption)).trans (Sp.sdX0_3 (by assumption) (by assumption) (by assumption))) | exact Sp.sd_cr hkl hj ((Sp.sdX_s (by assumption)).trans (Sp.sdX0_4 (by assumption) (by assumption) (by assumption))) | exact Sp.sd_no hkl hj ((Sp.sdX_n (by assumption)).trans (Sp.sdX0_1 (by assumption))) | exact Sp.sd_no hkl hj ((Sp.sdX_n (by assumption)).trans (Sp.sdX0_2 (by assumption) (by assumption))) | exact Sp.sd_no hkl hj ((Sp.sdX_n (by assumption)).trans (Sp.sdX0_3 (by assumption) (by assumption) (by assumption))) | exact Sp.sd_cr hkl hj ((Sp.sdX_n (by assumption)).trans (Sp.sdX0_4 (by assumption) (by assumption) (by assumption))))⟩) (show qs.length - (k + 1) < qs.length - k from by omega)
      · have h6p : ¬ (((2 * ((qs.getD k (0, 0)).2)) < ((ps.getD e0 (0, 0)).2 + (ps.getD e2 (0, 0)).2))) := by first | (simpa using h6) | (have h6q := h6; simp at h6q; omega) | (have h6q := bx2 h6; simp at h6q; omega)
        refine aw_p 257983 (
          .a 2 7 <| .p (does_i (2 * ((qs.getD k (0, 0)).2)) (wrap_i64 (by omega) (by omega)) .i64) <| .a 2 7 <| .p (does_b false (h6)) <| .a 12 7 <| .nil _ _) ?_
        refine aw_fl 515967 ?_
        refine aw_sk ?_
        refine block_normal ?_
        refine then_normal ?_
        refine aw_p1 (
          .p (does_i (((k : Nat) : Int) + 1) (wrap_i64 (by omega) (by omega)) .i64) <| .a 1 7 <| .nil _ _) ?_
        refine then_normal ?_
        refine al_w [(2, .slice (some ⟨1, 0, none⟩) qs.length 0), (9, .pointer (some ⟨4, 0, none⟩)), (10, .int .i64 out), (38, .slice (some ⟨1, 0, none⟩) qs.length 0), (39, .int .i64 ((qs.length : Nat) : Int)), (40, .int .i64 (((k + 1) : Nat) : Int))] [(0, ⟨(ps.flatMap ptc), 28, true, 2⟩), (1, ⟨(qs.flatMap ptc), 28, true, 2⟩), (4, ⟨[.int .i64 ((ps.getD e0 (0, 0)).1 + (ps.getD e2 (0, 0)).1), .int .i64 ((ps.getD e0 (0, 0)).2 + (ps.getD e2 (0, 0)).2)], 28, true, 2⟩)] ?_ (hc := (by simp [closedB, valsB, valB, List.all_eq_true, List.mem_flatMap, List.mem_range, List.mem_map, i64v, ptc, flat1]; try (intros; simp [valsB, valB, flat1]); try decide))
        exact ih1 ((k + 1), out) (show ((k + 1) ≤ qs.length) ∧ (-1 ≤ out ∧ out ≤ 1) ∧ (Sp.sdL qs ((ps.getD e0 (0, 0)).1 + (ps.getD e2 (0, 0)).1) ((ps.getD e0 (0, 0)).2 + (ps.getD e2 (0, 0)).2) (qs.length - (k + 1)) (k + 1) out = Sp.sdF qs ((ps.getD e0 (0, 0)).1 + (ps.getD e2 (0, 0)).1) ((ps.getD e0 (0, 0)).2 + (ps.getD e2 (0, 0)).2)) from ⟨by omega, by omega, by (rw [← hh]; first | exact Sp.sd_no hkl hj ((Sp.sdX_s (by assumption)).trans (Sp.sdX0_1 (by assumption))) | exact Sp.sd_no hkl hj ((Sp.sdX_s (by assumption)).trans (Sp.sdX0_2 (by assumption) (by assumption))) | exact Sp.sd_no hkl hj ((Sp.sdX_s (by assumption)).trans (Sp.sdX0_3 (by assumption) (by assumption) (by assumption))) | exact Sp.sd_cr hkl hj ((Sp.sdX_s (by assumption)).trans (Sp.sdX0_4 (by assumption) (by assumption) (by assumption))) | exact Sp.sd_no hkl hj ((Sp.sdX_n (by assumption)).trans (Sp.sdX0_1 (by assumption))) | exact Sp.sd_no hkl hj ((Sp.sdX_n (by assumption)).trans (Sp.sdX0_2 (by assumption) (by assumption))) | exact Sp.sd_no hkl hj ((Sp.sdX_n (by assumption)).trans (Sp.sdX0_3 (by assumption) (by assumption) (by assumption))) | exact Sp.sd_cr hkl hj ((Sp.sdX_n (by assumption)).trans (Sp.sdX0_4 (by assumption) (by assumption) (by assumption))))⟩) (show qs.length - (k + 1) < qs.length - k from by omega)
  · have h1p : ¬ ((((k : Nat) : Int) < ((qs.length : Nat) : Int))) := by first | (simpa using h1) | (have h1q := h1; simp at h1q; omega) | (have h1q := bx2 h1; simp at h1q; omega)
    have hge : ¬ k < qs.length := by omega
    refine aw_ex 0 ?_
    refine then_exit ?_
    refine then_exit ?_
    refine block_exit ?_
    refine then_normal ?_
    refine aw_p 127 (
      .a 2 5 <| .nil _ _) ?_
    refine aw_rt ?_
    exact en_ret [.int .i64 out] (show (.int .i64 out : Value) = (.int .i64 (Sp.sideF ps e0 qs)) from (congrArg (Value.int .i64) (show out = (Sp.sideF ps e0 qs) from by (exact (by rw [← hs, ← hh, Sp.sd_end hge])))))

theorem corners_ok (ax ay bx b_y cx cy dx dy : Int) :
    AC Try.prog 98 0 ([.agg #[.int .i64 ax, .int .i64 ay], .agg #[.int .i64 bx, .int .i64 b_y], .agg #[.int .i64 cx, .int .i64 cy], .agg #[.int .i64 dx, .int .i64 dy]]) [] (.bool (Sp.cornX ax ay bx b_y cx cy dx dy)) [] := by
  refine ac_in Try.func98 (fun w0 W pin => ?_)
  refine aw_p 3 (
    .a 5 1 <| .nil _ _) ?_
  refine aw_sq 6 7 ?_
  refine aw_p 13 (
    .a 4 5 <| .p (does_c (segmeet_any ax ay bx b_y cx cy dx dy)) <| .nil _ _) ?_
  refine aw_bl 0 27 ?_
  refine aw_p 55 (
    .a 2 5 <| .nil _ _) ?_
  refine aw_cd 110 111 ((Sp.meetN (Sp.lim 1048576 ax) (Sp.lim 1048576 ay) (Sp.lim 1048576 bx) (Sp.lim 1048576 b_y) (Sp.lim 1048576 cx) (Sp.lim 1048576 cy) (Sp.lim 1048576 dx) (Sp.lim 1048576 dy)) == 0) (fun h1 => ?_) (fun h1 => ?_)
  · have h1p : (((Sp.meetN (Sp.lim 1048576 ax) (Sp.lim 1048576 ay) (Sp.lim 1048576 bx) (Sp.lim 1048576 b_y) (Sp.lim 1048576 cx) (Sp.lim 1048576 cy) (Sp.lim 1048576 dx) (Sp.lim 1048576 dy)) = 0)) := by first | (simpa using h1) | (have h1q := h1; simp at h1q; omega) | (have h1q := bx1 h1; simp at h1q; omega)
    refine aw_p 221 (
      .a 1 5 <| .nil _ _) ?_
    refine aw_rt ?_
    refine block_ret ?_
    refine then_ret ?_
    exact en_ret [.bool true] (show (.bool true : Value) = (.bool (Sp.cornX ax ay bx b_y cx cy dx dy)) from (congrArg Value.bool (show true = (Sp.cornX ax ay bx b_y cx cy dx dy) from by (unfold Sp.cornX Sp.eqQ; simp only [h1, if_true, if_false, Bool.false_eq_true, eq_self]))))
  · have h1p : ¬ (((Sp.meetN (Sp.lim 1048576 ax) (Sp.lim 1048576 ay) (Sp.lim 1048576 bx) (Sp.lim 1048576 b_y) (Sp.lim 1048576 cx) (Sp.lim 1048576 cy) (Sp.lim 1048576 dx) (Sp.lim 1048576 dy)) = 0)) := by first | (simpa using h1) | (have h1q := h1; simp at h1q; omega) | (have h1q := bx2 h1; simp at h1q; omega)
    refine aw_p 223 (
      .a 2 5 <| .nil _ _) ?_
    refine aw_cd 446 447 ((Sp.meetN (Sp.lim 1048576 ax) (Sp.lim 1048576 ay) (Sp.lim 1048576 bx) (Sp.lim 1048576 b_y) (Sp.lim 1048576 cx) (Sp.lim 1048576 cy) (Sp.lim 1048576 dx) (Sp.lim 1048576 dy)) == 1) (fun h2 => ?_) (fun h2 => ?_)
    · have h2p : (((Sp.meetN (Sp.lim 1048576 ax) (Sp.lim 1048576 ay) (Sp.lim 1048576 bx) (Sp.lim 1048576 b_y) (Sp.lim 1048576 cx) (Sp.lim 1048576 cy) (Sp.lim 1048576 dx) (Sp.lim 1048576 dy)) = 1)) := by first | (simpa using h2) | (have h2q := h2; simp at h2q; omega) | (have h2q := bx1 h2; simp at h2q; omega)
      rcases Bool.eq_false_or_eq_true (((ax == cx) && ((ay == cy) && true))) with h3 | h3
      · have h3p : ((ax = cx ∧ ay = cy)) := by first | (simpa using h3) | (have h3q := h3; simp at h3q; omega) | (have h3q := bx1 h3; simp at h3q; omega)
        refine aw_p 893 (
          .a 2 5 <| .p (does_e true (h3)) <| .a 16 5 <| .nil _ _) ?_
        refine aw_rt ?_
        refine block_ret ?_
        refine then_ret ?_
        exact en_ret [.bool true] (show (.bool true : Value) = (.bool (Sp.cornX ax ay bx b_y cx cy dx dy)) from (congrArg Value.bool (show true = (Sp.cornX ax ay bx b_y cx cy dx dy) from by (unfold Sp.cornX Sp.eqQ; simp only [h1, h2, h3, if_true, if_false, Bool.false_eq_true, eq_self]))))
      · have h3p : ¬ ((ax = cx ∧ ay = cy)) := by first | (simpa using h3) | (have h3q := h3; simp at h3q; omega) | (have h3q := bx2 h3; simp at h3q; omega)
        rcases Bool.eq_false_or_eq_true (((ax == dx) && ((ay == dy) && true))) with h4 | h4
        · have h4p : ((ax = dx ∧ ay = dy)) := by first | (simpa using h4) | (have h4q := h4; simp at h4q; omega) | (have h4q := bx1 h4; simp at h4q; omega)
          refine aw_p 893 (
            .a 2 5 <| .p (does_e false (h3)) <| .a 3 5 <| .p (does_e true (h4)) <| .a 12 5 <| .nil _ _) ?_
          refine aw_rt ?_
          refine block_ret ?_
          refine then_ret ?_
          exact en_ret [.bool true] (show (.bool true : Value) = (.bool (Sp.cornX ax ay bx b_y cx cy dx dy)) from (congrArg Value.bool (show true = (Sp.cornX ax ay bx b_y cx cy dx dy) from by (unfold Sp.cornX Sp.eqQ; simp only [h1, h2, h3, h4, if_true, if_false, Bool.false_eq_true, eq_self]))))
        · have h4p : ¬ ((ax = dx ∧ ay = dy)) := by first | (simpa using h4) | (have h4q := h4; simp at h4q; omega) | (have h4q := bx2 h4; simp at h4q; omega)
          rcases Bool.eq_false_or_eq_true (((bx == cx) && ((b_y == cy) && true))) with h5 | h5
          · have h5p : ((bx = cx ∧ b_y = cy)) := by first | (simpa using h5) | (have h5q := h5; simp at h5q; omega) | (have h5q := bx1 h5; simp at h5q; omega)
            refine aw_p 893 (
              .a 2 5 <| .p (does_e false (h3)) <| .a 3 5 <| .p (does_e false (h4)) <| .a 4 5 <| .p (does_e true (h5)) <| .a 7 5 <| .nil _ _) ?_
            refine aw_rt ?_
            refine block_ret ?_
            refine then_ret ?_
            exact en_ret [.bool true] (show (.bool true : Value) = (.bool (Sp.cornX ax ay bx b_y cx cy dx dy)) from (congrArg Value.bool (show true = (Sp.cornX ax ay bx b_y cx cy dx dy) from by (unfold Sp.cornX Sp.eqQ; simp only [h1, h2, h3, h4, h5, if_true, if_false, Bool.false_eq_true, eq_self]))))
          · have h5p : ¬ ((bx = cx ∧ b_y = cy)) := by first | (simpa using h5) | (have h5q := h5; simp at h5q; omega) | (have h5q := bx2 h5; simp at h5q; omega)
            refine aw_p 893 (
              .a 2 5 <| .p (does_e false (h3)) <| .a 3 5 <| .p (does_e false (h4)) <| .a 4 5 <| .p (does_e false (h5)) <| .a 4 5 <| .p (does_e ((bx == dx) && ((b_y == dy) && true)) (rfl)) <| .a 2 5 <| .nil _ _) ?_
            refine aw_rt ?_
            refine block_ret ?_
            refine then_ret ?_
            exact en_ret [.bool ((bx == dx) && ((b_y == dy) && true))] (show (.bool ((bx == dx) && ((b_y == dy) && true)) : Value) = (.bool (Sp.cornX ax ay bx b_y cx cy dx dy)) from (congrArg Value.bool (show ((bx == dx) && ((b_y == dy) && true)) = (Sp.cornX ax ay bx b_y cx cy dx dy) from by (unfold Sp.cornX Sp.eqQ; simp only [h1, h2, h3, h4, h5, if_true, if_false, Bool.false_eq_true, eq_self]))))
    · have h2p : ¬ (((Sp.meetN (Sp.lim 1048576 ax) (Sp.lim 1048576 ay) (Sp.lim 1048576 bx) (Sp.lim 1048576 b_y) (Sp.lim 1048576 cx) (Sp.lim 1048576 cy) (Sp.lim 1048576 dx) (Sp.lim 1048576 dy)) = 1)) := by first | (simpa using h2) | (have h2q := h2; simp at h2q; omega) | (have h2q := bx2 h2; simp at h2q; omega)
      refine aw_sk ?_
      refine block_normal ?_
      refine then_normal ?_
      refine aw_p 15 (
        .a 1 5 <| .nil _ _) ?_
      refine aw_rt ?_
      exact en_ret [.bool false] (show (.bool false : Value) = (.bool (Sp.cornX ax ay bx b_y cx cy dx dy)) from (congrArg Value.bool (show false = (Sp.cornX ax ay bx b_y cx cy dx dy) from by (unfold Sp.cornX Sp.eqQ; simp only [h1, h2, if_true, if_false, Bool.false_eq_true, eq_self]))))

theorem ixi_nil (v : Int) :
    AC Try.prog 152 0 ([.slice none 0 0, .int .i64 v]) [] (.int .i64 (-1)) [] := by
  refine ac_in Try.func152 (fun w0 W pin => ?_)
  refine aw_p 3 (
    .a 1 1 <| .nil _ _) ?_
  refine aw_sq 6 7 ?_
  refine aw_p 13 (
    .a 3 1 <| .nil _ _) ?_
  refine aw_bl 0 27 ?_
  refine aw_lp 55 ?_
  refine al_round ?_
  refine aw_p 111 (
    .a 1 1 <| .nil _ _) ?_
  refine aw_sq 222 223 ?_
  refine aw_fl 445 ?_
  refine aw_ex 0 ?_
  refine then_exit ?_
  refine then_exit ?_
  refine block_exit ?_
  refine then_normal ?_
  refine aw_p 15 (
    .a 1 1 <| .nil _ _) ?_
  refine aw_rt ?_
  exact en_ret [.int .i64 (-1)] (by kernel_rfl)

theorem ixi_one (v : Int) :
    AC Try.prog 152 1 ([.slice (some ⟨0, 0, none⟩) 1 0, .int .i64 v]) [(0, ⟨[.int .i64 v], 3, true, 1⟩)] (.int .i64 0) [(0, ⟨[.int .i64 v], 3, true, 1⟩)] := by
  refine ac_in Try.func152 (fun w0 W pin => ?_)
  refine aw_p 3 (
    .a 1 1 <| .nil _ _) ?_
  refine aw_sq 6 7 ?_
  refine aw_p 13 (
    .a 3 1 <| .nil _ _) ?_
  refine aw_bl 0 27 ?_
  refine aw_lp 55 ?_
  refine al_round ?_
  refine aw_p 111 (
    .a 1 1 <| .nil _ _) ?_
  refine aw_sq 222 223 ?_
  refine aw_tr 444 ?_
  refine aw_sk ?_
  refine then_normal ?_
  refine aw_sq 446 447 ?_
  refine aw_bl 1 893 ?_
  refine aw_p 1787 (
    .a 2 1 <| .nil _ _) ?_
  refine aw_p 3575 (
    .a 5 1 <| .p (does_b true ((show (v == v) = true from by simp))) <| .nil _ _) ?_
  refine aw_tr 7150 ?_
  refine aw_p 14301 (
    .a 2 1 <| .nil _ _) ?_
  refine aw_rt ?_
  refine block_ret ?_
  refine then_ret ?_
  refine then_ret ?_
  refine block_ret ?_
  refine then_ret ?_
  exact en_ret [.int .i64 0] (by kernel_rfl)

theorem cti_nil (v : Int) :
    AC Try.prog 121 0 ([.slice none 0 0, .int .i64 v]) [] (.bool false) [] := by
  refine ac_in Try.func121 (fun w0 W pin => ?_)
  refine aw_p 3 (
    .a 1 1 <| .nil _ _) ?_
  refine aw_p 7 (
    .a 2 1 <| .p (does_c (ixi_nil v)) <| .a 2 1 <| .nil _ _) ?_
  refine aw_rt ?_
  exact en_ret [.bool false] (by kernel_rfl)

theorem cti_one (v : Int) :
    AC Try.prog 121 1 ([.slice (some ⟨0, 0, none⟩) 1 0, .int .i64 v]) [(0, ⟨[.int .i64 v], 3, true, 1⟩)] (.bool true) [(0, ⟨[.int .i64 v], 3, true, 1⟩)] := by
  refine ac_in Try.func121 (fun w0 W pin => ?_)
  refine aw_p 3 (
    .a 1 1 <| .nil _ _) ?_
  refine aw_p 7 (
    .a 2 1 <| .p (does_k [0] (ixi_one v)) <| .a 2 1 <| .nil _ _) ?_
  refine aw_rt ?_
  exact en_ret [.bool true] (by kernel_rfl)


end Go.Proofs.Ytndkhgfecnbmnaa.Am
