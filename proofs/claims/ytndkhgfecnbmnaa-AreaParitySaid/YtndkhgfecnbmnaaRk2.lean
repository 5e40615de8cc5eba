/-
  The walks of the check of a ring: which edges.
-/
import Derived.Test.YtndkhgfecnbmnaaProg
import Derived.Test.YtndkhgfecnbmnaaAm16
import Derived.Test.YtndkhgfecnbmnaaRk
namespace Go.Proofs.Ytndkhgfecnbmnaa.Am
open Go Go.Proofs
set_option maxRecDepth 100000
set_option maxHeartbeats 4000000
set_option linter.unusedVariables false
set_option linter.unusedSimpArgs false

theorem ctf_nok_own (ps : List (Int × Int)) (hz : ps.length ≤ 9223372036854775807) :
    AC Try.prog 83 1 ([.slice (some ⟨0, 0, none⟩) ps.length 0, .func (.func 84) #[] #[]]) [(0, ⟨(ps.flatMap ptc), 28, true, 2⟩)] (.bool (ps.any Sp.nok)) [(0, ⟨(ps.flatMap ptc), 28, true, 2⟩)] := by
  refine ac_in Try.func83 (fun w0 W pin => ?_)
  refine aw_p 3 (
    .a 1 1 <| .nil _ _) ?_
  refine aw_p 7 (
    .a 2 1 <|
    .p (does_callB (x := .func 117) (ars := #[.tmp 5, .tmp 6]) (ats := #[30, 102]) (g := 117) (vs := [.slice (some ⟨0, 0, none⟩) ps.length 0, .func (.func 84) #[] #[]]) (m := 1) (r := 0) (firsts := #[]) (caps := #[]) (args0 := [.slice (some ⟨0, 0, none⟩) ps.length 0, .func (.func 84) #[] #[]]) (pre0 := [(0, ⟨(ps.flatMap ptc), 28, true, 2⟩)]) (post0 := [(0, ⟨(ps.flatMap ptc), 28, true, 2⟩)]) (pre := [(0, ⟨(ps.flatMap ptc), 28, true, 2⟩)]) (post := [(0, ⟨(ps.flatMap ptc), 28, true, 2⟩)]) (v0 := .int .i64 (Sp.ixF Sp.nok ps 0)) (v := .int .i64 (Sp.ixF Sp.nok ps 0)) [0] (by kernel_rfl) (by kernel_rfl) (by kernel_rfl) (by kernel_rfl) (ixf_nokn_own ps ps.length (rfl) (by first | omega | decide)) (.cons (.slice _ _ _ _ _ (by decide)) (.cons (.flatB (by kernel_rfl)) .nil)) ⟨rfl, ⟨rfl, rfl, rfl, (.flats (flats_pair _))⟩, trivial⟩ (by kernel_rfl) (by kernel_rfl) (by kernel_rfl) ⟨rfl, ⟨rfl, rfl, rfl, (.flats (flats_pair _))⟩, trivial⟩ (.flatB (by kernel_rfl))) <|
    .p (does_b (ps.any Sp.nok) (Sp.ixF_any _ _)) <| .a 1 1 <| .nil _ _) ?_
  refine aw_rt ?_
  exact en_ret [.bool (ps.any Sp.nok)] (by kernel_rfl)

theorem apart_own (ps : List (Int × Int)) (hz : ps.length ≤ 9223372036854775807) (k i k2 i2 : Nat) (hk : k < ps.length) (hi : i < ps.length) (hk2 : (k + 1) % ps.length = k2) (hi2 : (i + 1) % ps.length = i2) :
    AC Try.prog 86 1 ([.slice (some ⟨0, 0, none⟩) ps.length 0, .int .i64 ((k : Nat) : Int), .int .i64 ((i : Nat) : Int)]) [(0, ⟨(ps.flatMap ptc), 28, true, 2⟩)] (.bool (Sp.apF ps k k2 i i2)) [(0, ⟨(ps.flatMap ptc), 28, true, 2⟩)] := by
  have hk2l : k2 < ps.length := hk2 ▸ Nat.mod_lt _ (by omega); have hi2l : i2 < ps.length := hi2 ▸ Nat.mod_lt _ (by omega)
  refine ac_in Try.func86 (fun w0 W pin => ?_)
  refine aw_p 3 (
    .a 1 1 <| .nil _ _) ?_
  refine aw_p 7 (
    .a 3 1 <| .nil _ _) ?_
  refine aw_d 15 (
    .a 2 1 <| .p (does_indexSlice (t := 30) (x := .tmp 16) (y := .tmp 17) (k := 0) (off := 0) (n := ps.length) (c := 0) (z := 2) (kd := .i64) (j := ((k : Nat) : Int)) (by kernel_rfl) (by kernel_rfl) (by kernel_rfl) (by kernel_rfl) (by kernel_rfl) (by omega) (by omega)) <|
    .p (does_load (t := 28) (x := .tmp 18) (k := 0) (off := (0 + (((k : Nat) : Int)).toNat * 2)) (b := ⟨(ps.flatMap ptc), 28, true, 2⟩) (v := .agg #[.int .i64 ((ps.getD k (0, 0)).1), .int .i64 ((ps.getD k (0, 0)).2)]) (by kernel_rfl) (by kernel_rfl) (by kernel_rfl) (ldV_pair (j := k) (by kernel_rfl) (by kernel_rfl) (by omega) (by omega))) <|
    .a 2 1 <| .p (does_i (((k : Nat) : Int) + 1) (wrap_i64 (by omega) (by omega)) .i64) <| .a 1 1 <|
    .p (does_int (n' := ((k2 : Nat) : Int)) (does_rem (t := 3) (t2 := 3) (x := .tmp 22) (y := .tmp 23) (k := .i64) (a := (((k : Nat) : Int) + 1)) (b := ((ps.length : Nat) : Int)) (by kernel_rfl) (by kernel_rfl) (by kernel_rfl) (by omega)) ((show (Int.tmod (((k : Nat) : Int) + 1) ((ps.length : Nat) : Int)) = ((k2 : Nat) : Int) from (by rw [← hk2]; exact rfl)))) <|
    .p (does_indexSlice (t := 30) (x := .tmp 20) (y := .tmp 24) (k := 0) (off := 0) (n := ps.length) (c := 0) (z := 2) (kd := .i64) (j := ((k2 : Nat) : Int)) (by kernel_rfl) (by kernel_rfl) (by kernel_rfl) (by kernel_rfl) (by kernel_rfl) (by omega) (by omega)) <|
    .p (does_load (t := 28) (x := .tmp 25) (k := 0) (off := (0 + (((k2 : Nat) : Int)).toNat * 2)) (b := ⟨(ps.flatMap ptc), 28, true, 2⟩) (v := .agg #[.int .i64 ((ps.getD k2 (0, 0)).1), .int .i64 ((ps.getD k2 (0, 0)).2)]) (by kernel_rfl) (by kernel_rfl) (by kernel_rfl) (ldV_pair (j := k2) (by kernel_rfl) (by kernel_rfl) (by omega) (by omega))) <|
    .a 2 1 <| .p (does_indexSlice (t := 30) (x := .tmp 27) (y := .tmp 28) (k := 0) (off := 0) (n := ps.length) (c := 0) (z := 2) (kd := .i64) (j := ((i : Nat) : Int)) (by kernel_rfl) (by kernel_rfl) (by kernel_rfl) (by kernel_rfl) (by kernel_rfl) (by omega) (by omega)) <|
    .p (does_load (t := 28) (x := .tmp 29) (k := 0) (off := (0 + (((i : Nat) : Int)).toNat * 2)) (b := ⟨(ps.flatMap ptc), 28, true, 2⟩) (v := .agg #[.int .i64 ((ps.getD i (0, 0)).1), .int .i64 ((ps.getD i (0, 0)).2)]) (by kernel_rfl) (by kernel_rfl) (by kernel_rfl) (ldV_pair (j := i) (by kernel_rfl) (by kernel_rfl) (by omega) (by omega))) <|
    .a 2 1 <| .p (does_i (((i : Nat) : Int) + 1) (wrap_i64 (by omega) (by omega)) .i64) <| .a 1 1 <|
    .p (does_int (n' := ((i2 : Nat) : Int)) (does_rem (t := 3) (t2 := 3) (x := .tmp 33) (y := .tmp 34) (k := .i64) (a := (((i : Nat) : Int) + 1)) (b := ((ps.length : Nat) : Int)) (by kernel_rfl) (by kernel_rfl) (by kernel_rfl) (by omega)) ((show (Int.tmod (((i : Nat) : Int) + 1) ((ps.length : Nat) : Int)) = ((i2 : Nat) : Int) from (by rw [← hi2]; exact rfl)))) <|
    .p (does_indexSlice (t := 30) (x := .tmp 31) (y := .tmp 35) (k := 0) (off := 0) (n := ps.length) (c := 0) (z := 2) (kd := .i64) (j := ((i2 : Nat) : Int)) (by kernel_rfl) (by kernel_rfl) (by kernel_rfl) (by kernel_rfl) (by kernel_rfl) (by omega) (by omega)) <|
    .p (does_load (t := 28) (x := .tmp 36) (k := 0) (off := (0 + (((i2 : Nat) : Int)).toNat * 2)) (b := ⟨(ps.flatMap ptc), 28, true, 2⟩) (v := .agg #[.int .i64 ((ps.getD i2 (0, 0)).1), .int .i64 ((ps.getD i2 (0, 0)).2)]) (by kernel_rfl) (by kernel_rfl) (by kernel_rfl) (ldV_pair (j := i2) (by kernel_rfl) (by kernel_rfl) (by omega) (by omega))) <|
    .a 8 1 <| .nil _ _) ?_
  refine aw_d 31 (
    .a 1 5 <| .p (does_i (((k : Nat) : Int) + 1) (wrap_i64 (by omega) (by omega)) .i64) <| .a 3 5 <| .p (does_i (((i : Nat) : Int) + 1) (wrap_i64 (by omega) (by omega)) .i64) <| .a 1 5 <|
    .p (does_int (n' := ((i2 : Nat) : Int)) (does_rem (t := 3) (t2 := 3) (x := .tmp 43) (y := .tmp 44) (k := .i64) (a := (((i : Nat) : Int) + 1)) (b := ((ps.length : Nat) : Int)) (by kernel_rfl) (by kernel_rfl) (by kernel_rfl) (by omega)) ((show (Int.tmod (((i : Nat) : Int) + 1) ((ps.length : Nat) : Int)) = ((i2 : Nat) : Int) from (by rw [← hi2]; exact rfl)))) <|
    .a 4 5 <| .nil _ _) ?_
  refine aw_sq 62 63 ?_
  rcases Bool.eq_false_or_eq_true (((((ps.getD k (0, 0)).1) == ((ps.getD k2 (0, 0)).1)) && ((((ps.getD k (0, 0)).2) == ((ps.getD k2 (0, 0)).2)) && true))) with h1 | h1
  · have h1p : ((((ps.getD k (0, 0)).1) = ((ps.getD k2 (0, 0)).1) ∧ ((ps.getD k (0, 0)).2) = ((ps.getD k2 (0, 0)).2))) := by first | (simpa using h1) | (have h1q := h1; simp at h1q; omega) | (have h1q := bx1 h1; simp at h1q; omega)
    refine aw_p 125 (
      .a 2 5 <| .p (does_e true (h1)) <| .a 5 5 <| .nil _ _) ?_
    refine aw_tr 250 ?_
    refine aw_p 501 (
      .a 1 5 <| .nil _ _) ?_
    refine aw_rt ?_
    refine then_ret ?_
    exact en_ret [.bool false] (show (.bool false : Value) = (.bool (Sp.apF ps k k2 i i2)) from (congrArg Value.bool (show false = (Sp.apF ps k k2 i i2) from by (first | exact (Sp.apF_1 (by assumption)).symm | exact (Sp.apF_2 (by assumption) (by assumption)).symm | exact (Sp.apF_3 (by assumption) (by assumption) (by assumption)).symm | exact (Sp.apF_4 (by assumption) (by assumption) (by assumption) (by assumption)).symm | exact (Sp.apF_5 (by assumption) (by assumption) (by assumption) (by assumption)).symm))))
  · have h1p : ¬ ((((ps.getD k (0, 0)).1) = ((ps.getD k2 (0, 0)).1) ∧ ((ps.getD k (0, 0)).2) = ((ps.getD k2 (0, 0)).2))) := by first | (simpa using h1) | (have h1q := h1; simp at h1q; omega) | (have h1q := bx2 h1; simp at h1q; omega)
    refine aw_p 125 (
      .a 2 5 <| .p (does_e false (h1)) <| .a 3 5 <| .p (does_e ((((ps.getD i (0, 0)).1) == ((ps.getD i2 (0, 0)).1)) && ((((ps.getD i (0, 0)).2) == ((ps.getD i2 (0, 0)).2)) && true)) (rfl)) <| .a 1 5 <| .nil _ _) ?_
    refine aw_cd 250 251 ((((ps.getD i (0, 0)).1) == ((ps.getD i2 (0, 0)).1)) && ((((ps.getD i (0, 0)).2) == ((ps.getD i2 (0, 0)).2)) && true)) (fun h2 => ?_) (fun h2 => ?_)
    · have h2p : ((((ps.getD i (0, 0)).1) = ((ps.getD i2 (0, 0)).1) ∧ ((ps.getD i (0, 0)).2) = ((ps.getD i2 (0, 0)).2))) := by first | (simpa using h2) | (have h2q := h2; simp at h2q; omega) | (have h2q := bx1 h2; simp at h2q; omega)
      refine aw_p 501 (
        .a 1 5 <| .nil _ _) ?_
      refine aw_rt ?_
      refine then_ret ?_
      exact en_ret [.bool false] (show (.bool false : Value) = (.bool (Sp.apF ps k k2 i i2)) from (congrArg Value.bool (show false = (Sp.apF ps k k2 i i2) from by (first | exact (Sp.apF_1 (by assumption)).symm | exact (Sp.apF_2 (by assumption) (by assumption)).symm | exact (Sp.apF_3 (by assumption) (by assumption) (by assumption)).symm | exact (Sp.apF_4 (by assumption) (by assumption) (by assumption) (by assumption)).symm | exact (Sp.apF_5 (by assumption) (by assumption) (by assumption) (by assumption)).symm))))
    · have h2p : ¬ ((((ps.getD i (0, 0)).1) = ((ps.getD i2 (0, 0)).1) ∧ ((ps.getD i (0, 0)).2) = ((ps.getD i2 (0, 0)).2))) := by first | (simpa using h2) | (have h2q := h2; simp at h2q; omega) | (have h2q := bx2 h2; simp at h2q; omega)
      refine aw_sk ?_
      refine then_normal ?_
      refine aw_sq 126 127 ?_
      rcases Bool.eq_false_or_eq_true ((((k : Nat) : Int) + 1) == ((i : Nat) : Int)) with h3 | h3
      · have h3p : (((((k : Nat) : Int) + 1) = ((i : Nat) : Int))) := by first | (simpa using h3) | (have h3q := h3; simp at h3q; omega) | (have h3q := bx1 h3; simp at h3q; omega)
        refine aw_p 253 (
          .p (does_b true (h3)) <| .a 3 5 <| .nil _ _) ?_
        refine aw_tr 506 ?_
        refine aw_p 1013 (
          .a 4 5 <| .p (does_c (segmeet_any ((ps.getD k (0, 0)).1) ((ps.getD k (0, 0)).2) ((ps.getD k2 (0, 0)).1) ((ps.getD k2 (0, 0)).2) ((ps.getD i (0, 0)).1) ((ps.getD i (0, 0)).2) ((ps.getD i2 (0, 0)).1) ((ps.getD i2 (0, 0)).2))) <| .a 2 5 <| .nil _ _) ?_
        refine aw_rt ?_
        refine then_ret ?_
        exact en_ret [.bool ((Sp.meetN (Sp.lim 1048576 ((ps.getD k (0, 0)).1)) (Sp.lim 1048576 ((ps.getD k (0, 0)).2)) (Sp.lim 1048576 ((ps.getD k2 (0, 0)).1)) (Sp.lim 1048576 ((ps.getD k2 (0, 0)).2)) (Sp.lim 1048576 ((ps.getD i (0, 0)).1)) (Sp.lim 1048576 ((ps.getD i (0, 0)).2)) (Sp.lim 1048576 ((ps.getD i2 (0, 0)).1)) (Sp.lim 1048576 ((ps.getD i2 (0, 0)).2))) == 1)] (show (.bool ((Sp.meetN (Sp.lim 1048576 ((ps.getD k (0, 0)).1)) (Sp.lim 1048576 ((ps.getD k (0, 0)).2)) (Sp.lim 1048576 ((ps.getD k2 (0, 0)).1)) (Sp.lim 1048576 ((ps.getD k2 (0, 0)).2)) (Sp.lim 1048576 ((ps.getD i (0, 0)).1)) (Sp.lim 1048576 ((ps.getD i (0, 0)).2)) (Sp.lim 1048576 ((ps.getD i2 (0, 0)).1)) (Sp.lim 1048576 ((ps.getD i2 (0, 0)).2))) == 1) : Value) = (.bool (Sp.apF ps k k2 i i2)) from (congrArg Value.bool (show ((Sp.meetN (Sp.lim 1048576 ((ps.getD k (0, 0)).1)) (Sp.lim 1048576 ((ps.getD k (0, 0)).2)) (Sp.lim 1048576 ((ps.getD k2 (0, 0)).1)) (Sp.lim 1048576 ((ps.getD k2 (0, 0)).2)) (Sp.lim 1048576 ((ps.getD i (0, 0)).1)) (Sp.lim 1048576 ((ps.getD i (0, 0)).2)) (Sp.lim 1048576 ((ps.getD i2 (0, 0)).1)) (Sp.lim 1048576 ((ps.getD i2 (0, 0)).2))) == 1) = (Sp.apF ps k k2 i i2) from by (first | exact (Sp.apF_1 (by assumption)).symm | exact (Sp.apF_2 (by assumption) (by assumption)).symm | exact (Sp.apF_3 (by assumption) (by assumption) (by assumption)).symm | exact (Sp.apF_4 (by assumption) (by assumption) (by assumption) (by assumption)).symm | exact (Sp.apF_5 (by assumption) (by assumption) (by assumption) (by assumption)).symm))))
      · have h3p : ¬ (((((k : Nat) : Int) + 1) = ((i : Nat) : Int))) := by first | (simpa using h3) | (have h3q := h3; simp at h3q; omega) | (have h3q := bx2 h3; simp at h3q; omega)
        refine aw_p 253 (
          .p (does_b false (h3)) <| .a 3 5 <| .nil _ _) ?_
        refine aw_cd 506 507 (((i2 : Nat) : Int) == ((k : Nat) : Int)) (fun h4 => ?_) (fun h4 => ?_)
        · have h4p : ((((i2 : Nat) : Int) = ((k : Nat) : Int))) := by first | (simpa using h4) | (have h4q := h4; simp at h4q; omega) | (have h4q := bx1 h4; simp at h4q; omega)
          refine aw_p 1013 (
            .a 4 5 <| .p (does_c (segmeet_any ((ps.getD k (0, 0)).1) ((ps.getD k (0, 0)).2) ((ps.getD k2 (0, 0)).1) ((ps.getD k2 (0, 0)).2) ((ps.getD i (0, 0)).1) ((ps.getD i (0, 0)).2) ((ps.getD i2 (0, 0)).1) ((ps.getD i2 (0, 0)).2))) <| .a 2 5 <| .nil _ _) ?_
          refine aw_rt ?_
          refine then_ret ?_
          exact en_ret [.bool ((Sp.meetN (Sp.lim 1048576 ((ps.getD k (0, 0)).1)) (Sp.lim 1048576 ((ps.getD k (0, 0)).2)) (Sp.lim 1048576 ((ps.getD k2 (0, 0)).1)) (Sp.lim 1048576 ((ps.getD k2 (0, 0)).2)) (Sp.lim 1048576 ((ps.getD i (0, 0)).1)) (Sp.lim 1048576 ((ps.getD i (0, 0)).2)) (Sp.lim 1048576 ((ps.getD i2 (0, 0)).1)) (Sp.lim 1048576 ((ps.getD i2 (0, 0)).2))) == 1)] (show (.bool ((Sp.meetN (Sp.lim 1048576 ((ps.getD k (0, 0)).1)) (Sp.lim 1048576 ((ps.getD k (0, 0)).2)) (Sp.lim 1048576 ((ps.getD k2 (0, 0)).1)) (Sp.lim 1048576 ((ps.getD k2 (0, 0)).2)) (Sp.lim 1048576 ((ps.getD i (0, 0)).1)) (Sp.lim 1048576 ((ps.getD i (0, 0)).2)) (Sp.lim 1048576 ((ps.getD i2 (0, 0)).1)) (Sp.lim 1048576 ((ps.getD i2 (0, 0)).2))) == 1) : Value) = (.bool (Sp.apF ps k k2 i i2)) from (congrArg Value.bool (show ((Sp.meetN (Sp.lim 1048576 ((ps.getD k (0, 0)).1)) (Sp.lim 1048576 ((ps.getD k (0, 0)).2)) (Sp.lim 1048576 ((ps.getD k2 (0, 0)).1)) (Sp.lim 1048576 ((ps.getD k2 (0, 0)).2)) (Sp.lim 1048576 ((ps.getD i (0, 0)).1)) (Sp.lim 1048576 ((ps.getD i (0, 0)).2)) (Sp.lim 1048576 ((ps.getD i2 (0, 0)).1)) (Sp.lim 1048576 ((ps.getD i2 (0, 0)).2))) == 1) = (Sp.apF ps k k2 i i2) from by (first | exact (Sp.apF_1 (by assumption)).symm | exact (Sp.apF_2 (by assumption) (by assumption)).symm | exact (Sp.apF_3 (by assumption) (by assumption) (by assumption)).symm | exact (Sp.apF_4 (by assumption) (by assumption) (by assumption) (by assumption)).symm | exact (Sp.apF_5 (by assumption) (by assumption) (by assumption) (by assumption)).symm))))
        · have h4p : ¬ ((((i2 : Nat) : Int) = ((k : Nat) : Int))) := by first | (simpa using h4) | (have h4q := h4; simp at h4q; omega) | (have h4q := bx2 h4; simp at h4q; omega)
          refine aw_sk ?_
          refine then_normal ?_
          refine aw_p 255 (
            .a 4 5 <| .p (does_c (segmeet_any ((ps.getD k (0, 0)).1) ((ps.getD k (0, 0)).2) ((ps.getD k2 (0, 0)).1) ((ps.getD k2 (0, 0)).2) ((ps.getD i (0, 0)).1) ((ps.getD i (0, 0)).2) ((ps.getD i2 (0, 0)).1) ((ps.getD i2 (0, 0)).2))) <| .a 2 5 <| .nil _ _) ?_
          refine aw_rt ?_
          exact en_ret [.bool ((Sp.meetN (Sp.lim 1048576 ((ps.getD k (0, 0)).1)) (Sp.lim 1048576 ((ps.getD k (0, 0)).2)) (Sp.lim 1048576 ((ps.getD k2 (0, 0)).1)) (Sp.lim 1048576 ((ps.getD k2 (0, 0)).2)) (Sp.lim 1048576 ((ps.getD i (0, 0)).1)) (Sp.lim 1048576 ((ps.getD i (0, 0)).2)) (Sp.lim 1048576 ((ps.getD i2 (0, 0)).1)) (Sp.lim 1048576 ((ps.getD i2 (0, 0)).2))) == 0)] (show (.bool ((Sp.meetN (Sp.lim 1048576 ((ps.getD k (0, 0)).1)) (Sp.lim 1048576 ((ps.getD k (0, 0)).2)) (Sp.lim 1048576 ((ps.getD k2 (0, 0)).1)) (Sp.lim 1048576 ((ps.getD k2 (0, 0)).2)) (Sp.lim 1048576 ((ps.getD i (0, 0)).1)) (Sp.lim 1048576 ((ps.getD i (0, 0)).2)) (Sp.lim 1048576 ((ps.getD i2 (0, 0)).1)) (Sp.lim 1048576 ((ps.getD i2 (0, 0)).2))) == 0) : Value) = (.bool (Sp.apF ps k k2 i i2)) from (congrArg Value.bool (show ((Sp.meetN (Sp.lim 1048576 ((ps.getD k (0, 0)).1)) (Sp.lim 1048576 ((ps.getD k (0, 0)).2)) (Sp.lim 1048576 ((ps.getD k2 (0, 0)).1)) (Sp.lim 1048576 ((ps.getD k2 (0, 0)).2)) (Sp.lim 1048576 ((ps.getD i (0, 0)).1)) (Sp.lim 1048576 ((ps.getD i (0, 0)).2)) (Sp.lim 1048576 ((ps.getD i2 (0, 0)).1)) (Sp.lim 1048576 ((ps.getD i2 (0, 0)).2))) == 0) = (Sp.apF ps k k2 i i2) from by (first | exact (Sp.apF_1 (by assumption)).symm | exact (Sp.apF_2 (by assumption) (by assumption)).symm | exact (Sp.apF_3 (by assumption) (by assumption) (by assumption)).symm | exact (Sp.apF_4 (by assumption) (by assumption) (by assumption) (by assumption)).symm | exact (Sp.apF_5 (by assumption) (by assumption) (by assumption) (by assumption)).symm))))

theorem ctf_nokn_own (ps : List (Int × Int)) (N : Nat) (hN : ps.length = N) (hz : N ≤ 9223372036854775807) : AC Try.prog 83 1 [.slice (some ⟨0, 0, none⟩) N 0, .func (.func 84) #[] #[]] [(0, ⟨(ps.flatMap ptc), 28, true, 2⟩)] (.bool (ps.any Sp.nok)) [(0, ⟨(ps.flatMap ptc), 28, true, 2⟩)] := by
  subst hN
  exact ctf_nok_own ps hz

end Go.Proofs.Ytndkhgfecnbmnaa.Am
