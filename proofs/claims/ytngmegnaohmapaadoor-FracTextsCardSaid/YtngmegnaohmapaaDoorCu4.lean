/-
  The walk of the document's reading of fractions.
-/
import Derived.Test.YtngmegnaohmapaaDoorProg
import Derived.Test.YtngmegnaohmapaaDoorAm16
import Derived.Test.YtngmegnaohmapaaDoorCu2
import Derived.Test.YtngmegnaohmapaaDoorNu3
import Derived.Test.YtngmegnaohmapaaDoorFr1
namespace Go.Proofs.YtngmegnaohmapaaDoor.Am
open Go Go.Proofs
set_option maxRecDepth 100000
set_option maxHeartbeats 4000000
set_option linter.unusedVariables false
set_option linter.unusedSimpArgs false

theorem fraction_ok (l : List UInt8) (hz : l.length ≤ 9223372036854775807) :
    AC Tryd.prog 10 0 ([.string (ByteArray.mk (l).toArray)]) [] (.tuple #[.agg #[.int .i64 (Sp.frN l), .int .i64 (Sp.frM l)], .int .i64 (Sp.frE l)]) [] := by
  have hct := Sp.ct1_len l; have hct2 := Sp.ct2_len l; have hr1 := Sp.rdV_bd (Sp.ct1 l); have hr2 := Sp.rdV_bd (Sp.ct2 l); have h1g := Sp.ig_one
  refine ac_in Tryd.func10 (fun w0 W pin => ?_)
  refine aw_p 3 (
    .a 2 1 <| .nil _ _) ?_
  refine aw_sq 6 7 ?_
  refine aw_p 13 (
    .a 1 2 <| .p (does_slen (x := .tmp 13) 9 l (by kernel_rfl) (by kernel_rfl) (by kernel_rfl) (by first | omega | (simp; done) | (simp; omega))) <| .a 1 2 <| .nil _ _) ?_
  refine aw_cd 26 27 (decide (((l.length : Nat) : Int) > 60)) (fun h1 => ?_) (fun h1 => ?_)
  · have h1p : ((((l.length : Nat) : Int) > 60)) := by first | (simpa using h1) | (have h1q := h1; simp at h1q; omega) | (have h1q := bx1 h1; simp at h1q; omega)
    have hr := Sp.fr_bad (Sp.fr_p1 (l := l) (by omega)) (by decide)
    refine aw_p 53 (
      .a 3 2 <| .nil _ _) ?_
    refine aw_rt ?_
    refine then_ret ?_
    exact en_ret [.agg #[.int .i64 0, .int .i64 0], .int .i64 2] (show (.tuple #[.agg #[.int .i64 0, .int .i64 0], .int .i64 2] : Value) = (.tuple #[.agg #[.int .i64 (Sp.frN l), .int .i64 (Sp.frM l)], .int .i64 (Sp.frE l)]) from (congrArg (fun z : List Value => Value.tuple z.toArray) (lcons (congrArg (fun z : List Value => Value.agg z.toArray) (lcons (congrArg (Value.int .i64) (show 0 = (Sp.frN l) from by (first | exact hr.1.symm | exact hr.2.1.symm | exact hr.2.2.symm | exact hr.1 | exact hr.2.1 | exact hr.2.2 | (rw [hr.1]; done) | (rw [hr.2.1]; done) | (rw [hr.2.2]; done)))) (lcons (congrArg (Value.int .i64) (show 0 = (Sp.frM l) from by (first | exact hr.1.symm | exact hr.2.1.symm | exact hr.2.2.symm | exact hr.1 | exact hr.2.1 | exact hr.2.2 | (rw [hr.1]; done) | (rw [hr.2.1]; done) | (rw [hr.2.2]; done)))) rfl))) (lcons (congrArg (Value.int .i64) (show 2 = (Sp.frE l) from by (first | exact hr.1.symm | exact hr.2.1.symm | exact hr.2.2.symm | exact hr.1 | exact hr.2.1 | exact hr.2.2 | (rw [hr.1]; done) | (rw [hr.2.1]; done) | (rw [hr.2.2]; done)))) rfl))))
  · have h1p : ¬ ((((l.length : Nat) : Int) > 60)) := by first | (simpa using h1) | (have h1q := h1; simp at h1q; omega) | (have h1q := bx2 h1; simp at h1q; omega)
    have h60 : ¬ 60 < l.length := by omega
    refine aw_sk ?_
    refine then_normal ?_
    refine aw_p 15 (
      .a 1 2 <| .p (does_slen (x := .tmp 17) 9 l (by kernel_rfl) (by kernel_rfl) (by kernel_rfl) (by first | omega | (simp; done) | (simp; omega))) <| .a 1 2 <| .nil _ _) ?_
    refine aw_sq 30 31 ?_
    refine aw_p 61 (
      .a 1 2 <| .p (does_slen (x := .tmp 19) 9 l (by kernel_rfl) (by kernel_rfl) (by kernel_rfl) (by first | omega | (simp; done) | (simp; omega))) <| .p (does_i (((l.length : Nat) : Int) - 1) (wrap_i64 (by omega) (by omega)) .i64) <| .a 1 2 <| .nil _ _) ?_
    refine aw_bl 0 123 ?_
    refine aw_lp 247 ?_
    refine al_w [(0, .string (ByteArray.mk (l).toArray)), (2, .pointer (some ⟨1, 0, none⟩)), (3, .int .i64 0), (4, .int .i64 ((l.length : Nat) : Int)), (5, .int .i64 (((l.length : Nat) : Int) - 1))] [(1, ⟨[.int .i64 0, .int .i64 0], 23, true, 2⟩)] ?_
    refine al_ind (fun i : Nat × Nat => (fun (j : Nat) (t : Nat) => mkSt 0 [(0, .string (ByteArray.mk (l).toArray)), (2, .pointer (some ⟨1, 0, none⟩)), (3, .int .i64 0), (4, .int .i64 ((t : Nat) : Int)), (5, .int .i64 (((j : Nat) : Int) - 1))] [(1, ⟨[.int .i64 0, .int .i64 0], 23, true, 2⟩)]) i.1 i.2) (fun i : Nat × Nat => (fun (j : Nat) (t : Nat) => (j ≤ l.length) ∧ (t = j + (Sp.ct1 (l.drop j)).length)) i.1 i.2) (fun i : Nat × Nat => (fun (j : Nat) (t : Nat) => j) i.1 i.2) (fun i hi1 ih1 => ?_) (l.length, l.length) (show (l.length ≤ l.length) ∧ (l.length = l.length + (Sp.ct1 (l.drop l.length)).length) from ⟨by omega, by (rw [List.drop_length]; rfl)⟩)
    obtain ⟨j, t⟩ := i
    have hi1' : (j ≤ l.length) ∧ (t = j + (Sp.ct1 (l.drop j)).length) := hi1
    obtain ⟨hj, ht⟩ := hi1'
    show AL _ _ _ (mkSt 0 [(0, .string (ByteArray.mk (l).toArray)), (2, .pointer (some ⟨1, 0, none⟩)), (3, .int .i64 0), (4, .int .i64 ((t : Nat) : Int)), (5, .int .i64 (((j : Nat) : Int) - 1))] [(1, ⟨[.int .i64 0, .int .i64 0], 23, true, 2⟩)]) _
    refine al_round ?_
    refine aw_sq 494 495 ?_
    refine aw_p 989 (
      .a 2 2 <| .nil _ _) ?_
    refine aw_cd 1978 1979 (decide ((((j : Nat) : Int) - 1) ≥ 0)) (fun h2 => ?_) (fun h2 => ?_)
    · have h2p : (((((j : Nat) : Int) - 1) ≥ 0)) := by first | (simpa using h2) | (have h2q := h2; simp at h2q; omega) | (have h2q := bx1 h2; simp at h2q; omega)
      obtain ⟨n, hjn⟩ : ∃ n, j = n + 1 := ⟨j - 1, by omega⟩
      refine aw_sk ?_
      refine then_normal ?_
      refine aw_sq 990 991 ?_
      refine aw_bl 1 1981 ?_
      refine aw_w [(0, .string (ByteArray.mk (l).toArray)), (2, .pointer (some ⟨1, 0, none⟩)), (3, .int .i64 0), (4, .int .i64 ((t : Nat) : Int)), (5, .int .i64 ((n : Nat) : Int)), (23, .bool (decide ((((n : Nat) : Int)) ≥ 0)))] [(1, ⟨[.int .i64 0, .int .i64 0], 23, true, 2⟩)] ?_ (by rw [show ((j : Nat) : Int) - 1 = ((n : Nat) : Int) from by omega]; kernel_rfl) (by rw [show ((j : Nat) : Int) - 1 = ((n : Nat) : Int) from by omega]; kernel_rfl)
      refine aw_p 3963 (
        .a 2 2 <| .p (does_six (t := 9) (x := .tmp 26) (y := .tmp 27) (k := .i64) (j := ((n : Nat) : Int)) l (((n : Nat) : Int).toNat) (by kernel_rfl) (by kernel_rfl) (by kernel_rfl) (by kernel_rfl) (by omega) (by first | omega | (simp; done) | (simp; omega))) <| .a 1 2 <| .nil _ _) ?_
      refine aw_cd 7926 7927 ((((l.getD (((n : Nat) : Int).toNat) 0).toNat : Nat) : Int) == 47) (fun h3 => ?_) (fun h3 => ?_)
      · have h3p : (((((l.getD (((n : Nat) : Int).toNat) 0).toNat : Nat) : Int) = 47)) := by first | (simpa using h3) | (have h3q := h3; simp at h3q; omega) | (have h3q := bx1 h3; simp at h3q; omega)
        have hcb : ((((l.getD n 0).toNat : Nat) : Int) == 47) = true := h3
        refine aw_p1 (
          .a 2 2 <| .nil _ _) ?_
        refine block_normal ?_
        refine then_normal ?_
        refine aw_p1 (
          .a 1 2 <| .p (does_i (((n : Nat) : Int) - 1) (wrap_i64 (by omega) (by omega)) .i64) <| .a 1 2 <| .nil _ _) ?_
        refine then_normal ?_
        refine al_w [(0, .string (ByteArray.mk (l).toArray)), (2, .pointer (some ⟨1, 0, none⟩)), (3, .int .i64 0), (4, .int .i64 ((n : Nat) : Int)), (5, .int .i64 (((n : Nat) : Int) - 1))] [(1, ⟨[.int .i64 0, .int .i64 0], 23, true, 2⟩)] ?_
        exact ih1 (n, n) (show (n ≤ l.length) ∧ (n = n + (Sp.ct1 (l.drop n)).length) from ⟨by omega, by (have q := Sp.ct1_step (l := l) (i := n) (by omega); rw [hcb] at q; rw [q]; first | rfl | (rw [ht, hjn]; simp; omega) | (rw [ht, hjn]; simp))⟩) (show n < j from by omega)
      · have h3p : ¬ (((((l.getD (((n : Nat) : Int).toNat) 0).toNat : Nat) : Int) = 47)) := by first | (simpa using h3) | (have h3q := h3; simp at h3q; omega) | (have h3q := bx2 h3; simp at h3q; omega)
        have hcb : ((((l.getD n 0).toNat : Nat) : Int) == 47) = false := h3
        refine aw_sk ?_
        refine block_normal ?_
        refine then_normal ?_
        refine aw_p1 (
          .a 1 2 <| .p (does_i (((n : Nat) : Int) - 1) (wrap_i64 (by omega) (by omega)) .i64) <| .a 1 2 <| .nil _ _) ?_
        refine then_normal ?_
        refine al_w [(0, .string (ByteArray.mk (l).toArray)), (2, .pointer (some ⟨1, 0, none⟩)), (3, .int .i64 0), (4, .int .i64 ((t : Nat) : Int)), (5, .int .i64 (((n : Nat) : Int) - 1))] [(1, ⟨[.int .i64 0, .int .i64 0], 23, true, 2⟩)] ?_
        exact ih1 (n, t) (show (n ≤ l.length) ∧ (t = n + (Sp.ct1 (l.drop n)).length) from ⟨by omega, by (have q := Sp.ct1_step (l := l) (i := n) (by omega); rw [hcb] at q; rw [q]; first | rfl | (rw [ht, hjn]; simp; omega) | (rw [ht, hjn]; simp))⟩) (show n < j from by omega)
    · have h2p : ¬ (((((j : Nat) : Int) - 1) ≥ 0)) := by first | (simpa using h2) | (have h2q := h2; simp at h2q; omega) | (have h2q := bx2 h2; simp at h2q; omega)
      have ht0 : t = (Sp.ct1 l).length := (by have q : j = 0 := (by omega); rw [ht, q, List.drop_zero]; omega)
      refine aw_ex 0 ?_
      refine then_exit ?_
      refine then_exit ?_
      refine block_exit ?_
      refine then_normal ?_
      refine aw_w [(0, .string (ByteArray.mk (l).toArray)), (2, .pointer (some ⟨1, 0, none⟩)), (3, .int .i64 0), (4, .int .i64 (((Sp.ct1 l).length : Nat) : Int))] [(1, ⟨[.int .i64 0, .int .i64 0], 23, true, 2⟩)] ?_ (by subst ht0; kernel_rfl) (by subst ht0; kernel_rfl)
      refine aw_p 63 (
        .a 2 2 <| .p (does_sto (t := 9) (x := .tmp 32) (y := .tmp 33) (k := .i64) (j := (((Sp.ct1 l).length : Nat) : Int)) l ((((Sp.ct1 l).length : Nat) : Int).toNat) (by kernel_rfl) (by kernel_rfl) (by kernel_rfl) (by kernel_rfl) (by omega) (by first | omega | (simp; done) | (simp; omega))) <|
        .p (does_c ((by have q := numeral_ok (Sp.ct1 l) (by first | omega | (simp; done) | (simp; omega)); rw [show (.string (ByteArray.mk (Sp.ct1 l).toArray) : Value) = .string (ByteArray.mk (l.take ((((Sp.ct1 l).length : Nat) : Int).toNat)).toArray) from congrArg (fun z : List UInt8 => Value.string (ByteArray.mk z.toArray)) (Sp.take_ct1 l).symm] at q; exact q))) <|
        .a 6 2 <| .nil _ _) ?_
      refine aw_sq 126 127 ?_
      refine aw_p 253 (
        .a 2 3 <| .nil _ _) ?_
      refine aw_cd 506 507 ((Sp.rdE (Sp.ct1 l)) != 0) (fun h4 => ?_) (fun h4 => ?_)
      · have h4p : (¬ ((Sp.rdE (Sp.ct1 l)) = 0)) := by first | (simpa using h4) | (have h4q := h4; simp at h4q; omega) | (have h4q := bx1 h4; simp at h4q; omega)
        have za : Sp.rdE (Sp.ct1 l) ≠ 0 := (by simpa using h4)
        have ga := Sp.ig_bad za
        have hr := Sp.fr_bad (Sp.fr_p2 h60 (by rw [ga.2]; exact za)) (by rw [ga.2]; exact za)
        rw [ga.2] at hr
        refine aw_p 1013 (
          .a 4 3 <| .nil _ _) ?_
        refine aw_rt ?_
        refine then_ret ?_
        exact en_ret [.agg #[.int .i64 0, .int .i64 0], .int .i64 (Sp.rdE (Sp.ct1 l))] (show (.tuple #[.agg #[.int .i64 0, .int .i64 0], .int .i64 (Sp.rdE (Sp.ct1 l))] : Value) = (.tuple #[.agg #[.int .i64 (Sp.frN l), .int .i64 (Sp.frM l)], .int .i64 (Sp.frE l)]) from (congrArg (fun z : List Value => Value.tuple z.toArray) (lcons (congrArg (fun z : List Value => Value.agg z.toArray) (lcons (congrArg (Value.int .i64) (show 0 = (Sp.frN l) from by (first | exact hr.1.symm | exact hr.2.1.symm | exact hr.2.2.symm | exact hr.1 | exact hr.2.1 | exact hr.2.2 | (rw [hr.1]; done) | (rw [hr.2.1]; done) | (rw [hr.2.2]; done)))) (lcons (congrArg (Value.int .i64) (show 0 = (Sp.frM l) from by (first | exact hr.1.symm | exact hr.2.1.symm | exact hr.2.2.symm | exact hr.1 | exact hr.2.1 | exact hr.2.2 | (rw [hr.1]; done) | (rw [hr.2.1]; done) | (rw [hr.2.2]; done)))) rfl))) (lcons (congrArg (Value.int .i64) (show (Sp.rdE (Sp.ct1 l)) = (Sp.frE l) from by (first | exact hr.1.symm | exact hr.2.1.symm | exact hr.2.2.symm | exact hr.1 | exact hr.2.1 | exact hr.2.2 | (rw [hr.1]; done) | (rw [hr.2.1]; done) | (rw [hr.2.2]; done)))) rfl))))
      · have h4p : ¬ (¬ ((Sp.rdE (Sp.ct1 l)) = 0)) := by first | (simpa using h4) | (have h4q := h4; simp at h4q; omega) | (have h4q := bx2 h4; simp at h4q; omega)
        have ea : Sp.rdE (Sp.ct1 l) = 0 := (by simpa using h4)
        refine aw_sk ?_
        refine then_normal ?_
        refine aw_sq 254 255 ?_
        refine aw_p 509 (
          .a 1 3 <| .p (does_c (lshort_ok (Sp.rdV (Sp.ct1 l)) (by omega) (by omega))) <| .a 5 3 <| .nil _ _) ?_
        refine aw_p 1019 (
          .a 2 3 <| .nil _ _) ?_
        refine aw_cd 2038 2039 (!(Sp.in64 (Sp.rdV (Sp.ct1 l)))) (fun h5 => ?_) (fun h5 => ?_)
        · have h5p : ¬ (Sp.in64 (Sp.rdV (Sp.ct1 l))) = true := by simpa using h5
          have ga := Sp.ig_out ea (by simpa using h5)
          have hr := Sp.fr_bad (Sp.fr_p2 h60 (by rw [ga.2]; decide)) (by rw [ga.2]; decide)
          rw [ga.2] at hr
          refine aw_p 4077 (
            .a 3 3 <| .nil _ _) ?_
          refine aw_rt ?_
          refine then_ret ?_
          exact en_ret [.agg #[.int .i64 0, .int .i64 0], .int .i64 2] (show (.tuple #[.agg #[.int .i64 0, .int .i64 0], .int .i64 2] : Value) = (.tuple #[.agg #[.int .i64 (Sp.frN l), .int .i64 (Sp.frM l)], .int .i64 (Sp.frE l)]) from (congrArg (fun z : List Value => Value.tuple z.toArray) (lcons (congrArg (fun z : List Value => Value.agg z.toArray) (lcons (congrArg (Value.int .i64) (show 0 = (Sp.frN l) from by (first | exact hr.1.symm | exact hr.2.1.symm | exact hr.2.2.symm | exact hr.1 | exact hr.2.1 | exact hr.2.2 | (rw [hr.1]; done) | (rw [hr.2.1]; done) | (rw [hr.2.2]; done)))) (lcons (congrArg (Value.int .i64) (show 0 = (Sp.frM l) from by (first | exact hr.1.symm | exact hr.2.1.symm | exact hr.2.2.symm | exact hr.1 | exact hr.2.1 | exact hr.2.2 | (rw [hr.1]; done) | (rw [hr.2.1]; done) | (rw [hr.2.2]; done)))) rfl))) (lcons (congrArg (Value.int .i64) (show 2 = (Sp.frE l) from by (first | exact hr.1.symm | exact hr.2.1.symm | exact hr.2.2.symm | exact hr.1 | exact hr.2.1 | exact hr.2.2 | (rw [hr.1]; done) | (rw [hr.2.1]; done) | (rw [hr.2.2]; done)))) rfl))))
        · have h5p : (Sp.in64 (Sp.rdV (Sp.ct1 l))) = true := by simpa using h5
          have ga := Sp.ig_in ea (by simpa using h5)
          refine aw_sk ?_
          refine then_normal ?_
          refine aw_p 511 (
            .p (does_c (llof_ok 1 (by decide) (by decide))) <| .a 2 3 <| .nil _ _) ?_
          refine aw_sq 1022 1023 ?_
          refine aw_p 2045 (
            .a 2 4 <| .p (does_slen (x := .tmp 52) 9 l (by kernel_rfl) (by kernel_rfl) (by kernel_rfl) (by first | omega | (simp; done) | (simp; omega))) <| .a 1 4 <| .nil _ _) ?_
          refine aw_cd 4090 4091 (decide ((((Sp.ct1 l).length : Nat) : Int) < ((l.length : Nat) : Int))) (fun h6 => ?_) (fun h6 => ?_)
          · have h6p : (((((Sp.ct1 l).length : Nat) : Int) < ((l.length : Nat) : Int))) := by first | (simpa using h6) | (have h6q := h6; simp at h6q; omega) | (have h6q := bx1 h6; simp at h6q; omega)
            have hc : Sp.c47 l = true := (by rw [← Sp.c47_lt l]; exact decide_eq_true (by omega))
            have hD := Sp.frD_yes hc
            refine aw_sq 8180 8181 ?_
            refine aw_p 16361 (
              .a 2 4 <| .p (does_i (((Sp.ct1 l).length + 1 : Nat) : Int) ((show (IntKind.wrap .i64 ((((Sp.ct1 l).length : Nat) : Int) + 1)) = (((Sp.ct1 l).length + 1 : Nat) : Int) from ((wrap_i64 (by omega) (by omega)).trans (by omega)))) .i64) <|
              .p (does_sfrom (t := 9) (x := .tmp 56) (y := .tmp 58) (k := .i64) (j := (((Sp.ct1 l).length + 1 : Nat) : Int)) l ((Sp.ct1 l).length + 1) (by kernel_rfl) (by kernel_rfl) (by kernel_rfl) (by kernel_rfl) (by omega) (by first | omega | (simp; done) | (simp; omega))) <|
              .p (does_c ((by have q := numeral_ok (Sp.ct2 l) (by first | omega | (simp; done) | (simp; omega)); rw [show (.string (ByteArray.mk (Sp.ct2 l).toArray) : Value) = .string (ByteArray.mk (l.drop ((Sp.ct1 l).length + 1)).toArray) from congrArg (fun z : List UInt8 => Value.string (ByteArray.mk z.toArray)) (Sp.drop_ct2 l).symm] at q; exact q))) <|
              .a 5 4 <| .nil _ _) ?_
            refine aw_p 32723 (
              .a 2 4 <| .nil _ _) ?_
            refine aw_cd 65446 65447 ((Sp.rdE (Sp.ct2 l)) != 0) (fun h7 => ?_) (fun h7 => ?_)
            · have h7p : (¬ ((Sp.rdE (Sp.ct2 l)) = 0)) := by first | (simpa using h7) | (have h7q := h7; simp at h7q; omega) | (have h7q := bx1 h7; simp at h7q; omega)
              have zb : Sp.rdE (Sp.ct2 l) ≠ 0 := (by simpa using h7)
              have gb := Sp.ig_bad zb
              have hr := Sp.fr_bad (Sp.fr_p3 h60 ga.2 hD (by rw [gb.2]; exact zb)) (by rw [gb.2]; exact zb)
              rw [gb.2] at hr
              refine aw_p 130893 (
                .a 4 4 <| .nil _ _) ?_
              refine aw_rt ?_
              refine then_ret ?_
              refine then_ret ?_
              exact en_ret [.agg #[.int .i64 0, .int .i64 0], .int .i64 (Sp.rdE (Sp.ct2 l))] (show (.tuple #[.agg #[.int .i64 0, .int .i64 0], .int .i64 (Sp.rdE (Sp.ct2 l))] : Value) = (.tuple #[.agg #[.int .i64 (Sp.frN l), .int .i64 (Sp.frM l)], .int .i64 (Sp.frE l)]) from (congrArg (fun z : List Value => Value.tuple z.toArray) (lcons (congrArg (fun z : List Value => Value.agg z.toArray) (lcons (congrArg (Value.int .i64) (show 0 = (Sp.frN l) from by (first | exact hr.1.symm | exact hr.2.1.symm | exact hr.2.2.symm | exact hr.1 | exact hr.2.1 | exact hr.2.2 | (rw [hr.1]; done) | (rw [hr.2.1]; done) | (rw [hr.2.2]; done)))) (lcons (congrArg (Value.int .i64) (show 0 = (Sp.frM l) from by (first | exact hr.1.symm | exact hr.2.1.symm | exact hr.2.2.symm | exact hr.1 | exact hr.2.1 | exact hr.2.2 | (rw [hr.1]; done) | (rw [hr.2.1]; done) | (rw [hr.2.2]; done)))) rfl))) (lcons (congrArg (Value.int .i64) (show (Sp.rdE (Sp.ct2 l)) = (Sp.frE l) from by (first | exact hr.1.symm | exact hr.2.1.symm | exact hr.2.2.symm | exact hr.1 | exact hr.2.1 | exact hr.2.2 | (rw [hr.1]; done) | (rw [hr.2.1]; done) | (rw [hr.2.2]; done)))) rfl))))
            · have h7p : ¬ (¬ ((Sp.rdE (Sp.ct2 l)) = 0)) := by first | (simpa using h7) | (have h7q := h7; simp at h7q; omega) | (have h7q := bx2 h7; simp at h7q; omega)
              have eb : Sp.rdE (Sp.ct2 l) = 0 := (by simpa using h7)
              refine aw_sk ?_
              refine then_normal ?_
              refine aw_sq 16362 16363 ?_
              refine aw_p 32725 (
                .a 1 4 <| .p (does_c (lshort_ok (Sp.rdV (Sp.ct2 l)) (by omega) (by omega))) <| .a 5 4 <| .nil _ _) ?_
              refine aw_p 65451 (
                .a 2 4 <| .nil _ _) ?_
              refine aw_cd 130902 130903 (!(Sp.in64 (Sp.rdV (Sp.ct2 l)))) (fun h8 => ?_) (fun h8 => ?_)
              · have h8p : ¬ (Sp.in64 (Sp.rdV (Sp.ct2 l))) = true := by simpa using h8
                have gb := Sp.ig_out eb (by simpa using h8)
                have hr := Sp.fr_bad (Sp.fr_p3 h60 ga.2 hD (by rw [gb.2]; decide)) (by rw [gb.2]; decide)
                rw [gb.2] at hr
                refine aw_p 261805 (
                  .a 3 4 <| .nil _ _) ?_
                refine aw_rt ?_
                refine then_ret ?_
                refine then_ret ?_
                exact en_ret [.agg #[.int .i64 0, .int .i64 0], .int .i64 2] (show (.tuple #[.agg #[.int .i64 0, .int .i64 0], .int .i64 2] : Value) = (.tuple #[.agg #[.int .i64 (Sp.frN l), .int .i64 (Sp.frM l)], .int .i64 (Sp.frE l)]) from (congrArg (fun z : List Value => Value.tuple z.toArray) (lcons (congrArg (fun z : List Value => Value.agg z.toArray) (lcons (congrArg (Value.int .i64) (show 0 = (Sp.frN l) from by (first | exact hr.1.symm | exact hr.2.1.symm | exact hr.2.2.symm | exact hr.1 | exact hr.2.1 | exact hr.2.2 | (rw [hr.1]; done) | (rw [hr.2.1]; done) | (rw [hr.2.2]; done)))) (lcons (congrArg (Value.int .i64) (show 0 = (Sp.frM l) from by (first | exact hr.1.symm | exact hr.2.1.symm | exact hr.2.2.symm | exact hr.1 | exact hr.2.1 | exact hr.2.2 | (rw [hr.1]; done) | (rw [hr.2.1]; done) | (rw [hr.2.2]; done)))) rfl))) (lcons (congrArg (Value.int .i64) (show 2 = (Sp.frE l) from by (first | exact hr.1.symm | exact hr.2.1.symm | exact hr.2.2.symm | exact hr.1 | exact hr.2.1 | exact hr.2.2 | (rw [hr.1]; done) | (rw [hr.2.1]; done) | (rw [hr.2.2]; done)))) rfl))))
              · have h8p : (Sp.in64 (Sp.rdV (Sp.ct2 l))) = true := by simpa using h8
                have gb := Sp.ig_in eb (by simpa using h8)
                refine aw_sk ?_
                refine then_normal ?_
                refine aw_p 32727 (
                  .a 1 4 <| .p (does_c (lsign_ok (Sp.rdV (Sp.ct2 l)) (by omega) (by omega))) <| .p (does_b (decide ((Sp.rdV (Sp.ct2 l)) < 0)) (Sp.sgn_neg _)) <| .nil _ _) ?_
                refine aw_cd 65454 65455 (decide ((Sp.rdV (Sp.ct2 l)) < 0)) (fun h9 => ?_) (fun h9 => ?_)
                · have h9p : (((Sp.rdV (Sp.ct2 l)) < 0)) := by first | (simpa using h9) | (have h9q := h9; simp at h9q; omega) | (have h9q := bx1 h9; simp at h9q; omega)
                  have hr := Sp.fr_bad (Sp.fr_p4 h60 ga.2 hD gb.2 (by rw [gb.1]; omega)) (by decide)
                  refine aw_p 130909 (
                    .a 3 4 <| .nil _ _) ?_
                  refine aw_rt ?_
                  refine then_ret ?_
                  exact en_ret [.agg #[.int .i64 0, .int .i64 0], .int .i64 15] (show (.tuple #[.agg #[.int .i64 0, .int .i64 0], .int .i64 15] : Value) = (.tuple #[.agg #[.int .i64 (Sp.frN l), .int .i64 (Sp.frM l)], .int .i64 (Sp.frE l)]) from (congrArg (fun z : List Value => Value.tuple z.toArray) (lcons (congrArg (fun z : List Value => Value.agg z.toArray) (lcons (congrArg (Value.int .i64) (show 0 = (Sp.frN l) from by (first | exact hr.1.symm | exact hr.2.1.symm | exact hr.2.2.symm | exact hr.1 | exact hr.2.1 | exact hr.2.2 | (rw [hr.1]; done) | (rw [hr.2.1]; done) | (rw [hr.2.2]; done)))) (lcons (congrArg (Value.int .i64) (show 0 = (Sp.frM l) from by (first | exact hr.1.symm | exact hr.2.1.symm | exact hr.2.2.symm | exact hr.1 | exact hr.2.1 | exact hr.2.2 | (rw [hr.1]; done) | (rw [hr.2.1]; done) | (rw [hr.2.2]; done)))) rfl))) (lcons (congrArg (Value.int .i64) (show 15 = (Sp.frE l) from by (first | exact hr.1.symm | exact hr.2.1.symm | exact hr.2.2.symm | exact hr.1 | exact hr.2.1 | exact hr.2.2 | (rw [hr.1]; done) | (rw [hr.2.1]; done) | (rw [hr.2.2]; done)))) rfl))))
                · have h9p : ¬ (((Sp.rdV (Sp.ct2 l)) < 0)) := by first | (simpa using h9) | (have h9q := h9; simp at h9q; omega) | (have h9q := bx2 h9; simp at h9q; omega)
                  have hr := Sp.fr_ok (Sp.fr_p5 h60 ga.2 hD gb.2 (by rw [gb.1]; omega)) ga.1 ((congrArg Sp.igV hD).trans gb.1)
                  refine aw_sk ?_
                  refine then_normal ?_
                  refine aw_p 2047 (
                    .a 2 4 <| .p (does_c (rratio_ok (Sp.rdV (Sp.ct1 l)) (Sp.rdV (Sp.ct2 l)) (by omega) (by omega) (by omega) (by omega))) <| .a 4 4 <| .nil _ _) ?_
                  refine aw_rt ?_
                  exact en_ret [.agg #[.int .i64 (Sp.dvn ((Sp.rdV (Sp.ct1 l) : Int) : Rat) ((Sp.rdV (Sp.ct2 l) : Int) : Rat)), .int .i64 (Sp.dvd ((Sp.rdV (Sp.ct1 l) : Int) : Rat) ((Sp.rdV (Sp.ct2 l) : Int) : Rat))], .int .i64 (Sp.dve ((Sp.rdV (Sp.ct1 l) : Int) : Rat) ((Sp.rdV (Sp.ct2 l) : Int) : Rat))] (show (.tuple #[.agg #[.int .i64 (Sp.dvn ((Sp.rdV (Sp.ct1 l) : Int) : Rat) ((Sp.rdV (Sp.ct2 l) : Int) : Rat)), .int .i64 (Sp.dvd ((Sp.rdV (Sp.ct1 l) : Int) : Rat) ((Sp.rdV (Sp.ct2 l) : Int) : Rat))], .int .i64 (Sp.dve ((Sp.rdV (Sp.ct1 l) : Int) : Rat) ((Sp.rdV (Sp.ct2 l) : Int) : Rat))] : Value) = (.tuple #[.agg #[.int .i64 (Sp.frN l), .int .i64 (Sp.frM l)], .int .i64 (Sp.frE l)]) from (congrArg (fun z : List Value => Value.tuple z.toArray) (lcons (congrArg (fun z : List Value => Value.agg z.toArray) (lcons (congrArg (Value.int .i64) (show (Sp.dvn ((Sp.rdV (Sp.ct1 l) : Int) : Rat) ((Sp.rdV (Sp.ct2 l) : Int) : Rat)) = (Sp.frN l) from by (first | exact hr.1.symm | exact hr.2.1.symm | exact hr.2.2.symm | exact hr.1 | exact hr.2.1 | exact hr.2.2 | (rw [hr.1]; done) | (rw [hr.2.1]; done) | (rw [hr.2.2]; done)))) (lcons (congrArg (Value.int .i64) (show (Sp.dvd ((Sp.rdV (Sp.ct1 l) : Int) : Rat) ((Sp.rdV (Sp.ct2 l) : Int) : Rat)) = (Sp.frM l) from by (first | exact hr.1.symm | exact hr.2.1.symm | exact hr.2.2.symm | exact hr.1 | exact hr.2.1 | exact hr.2.2 | (rw [hr.1]; done) | (rw [hr.2.1]; done) | (rw [hr.2.2]; done)))) rfl))) (lcons (congrArg (Value.int .i64) (show (Sp.dve ((Sp.rdV (Sp.ct1 l) : Int) : Rat) ((Sp.rdV (Sp.ct2 l) : Int) : Rat)) = (Sp.frE l) from by (first | exact hr.1.symm | exact hr.2.1.symm | exact hr.2.2.symm | exact hr.1 | exact hr.2.1 | exact hr.2.2 | (rw [hr.1]; done) | (rw [hr.2.1]; done) | (rw [hr.2.2]; done)))) rfl))))
          · have h6p : ¬ (((((Sp.ct1 l).length : Nat) : Int) < ((l.length : Nat) : Int))) := by first | (simpa using h6) | (have h6q := h6; simp at h6q; omega) | (have h6q := bx2 h6; simp at h6q; omega)
            have hc : Sp.c47 l = false := (by rw [← Sp.c47_lt l]; exact decide_eq_false (by omega))
            have hD := Sp.frD_no hc
            have hr := Sp.fr_ok (Sp.fr_p5 h60 ga.2 hD h1g.2 (by rw [h1g.1]; decide)) ga.1 ((congrArg Sp.igV hD).trans h1g.1)
            refine aw_sk ?_
            refine then_normal ?_
            refine aw_p 2047 (
              .a 2 4 <| .p (does_c (rratio_ok (Sp.rdV (Sp.ct1 l)) 1 (by omega) (by omega) (by omega) (by omega))) <| .a 4 4 <| .nil _ _) ?_
            refine aw_rt ?_
            exact en_ret [.agg #[.int .i64 (Sp.dvn ((Sp.rdV (Sp.ct1 l) : Int) : Rat) ((1 : Int) : Rat)), .int .i64 (Sp.dvd ((Sp.rdV (Sp.ct1 l) : Int) : Rat) ((1 : Int) : Rat))], .int .i64 (Sp.dve ((Sp.rdV (Sp.ct1 l) : Int) : Rat) ((1 : Int) : Rat))] (show (.tuple #[.agg #[.int .i64 (Sp.dvn ((Sp.rdV (Sp.ct1 l) : Int) : Rat) ((1 : Int) : Rat)), .int .i64 (Sp.dvd ((Sp.rdV (Sp.ct1 l) : Int) : Rat) ((1 : Int) : Rat))], .int .i64 (Sp.dve ((Sp.rdV (Sp.ct1 l) : Int) : Rat) ((1 : Int) : Rat))] : Value) = (.tuple #[.agg #[.int .i64 (Sp.frN l), .int .i64 (Sp.frM l)], .int .i64 (Sp.frE l)]) from (congrArg (fun z : List Value => Value.tuple z.toArray) (lcons (congrArg (fun z : List Value => Value.agg z.toArray) (lcons (congrArg (Value.int .i64) (show (Sp.dvn ((Sp.rdV (Sp.ct1 l) : Int) : Rat) ((1 : Int) : Rat)) = (Sp.frN l) from by (first | exact hr.1.symm | exact hr.2.1.symm | exact hr.2.2.symm | exact hr.1 | exact hr.2.1 | exact hr.2.2 | (rw [hr.1]; done) | (rw [hr.2.1]; done) | (rw [hr.2.2]; done)))) (lcons (congrArg (Value.int .i64) (show (Sp.dvd ((Sp.rdV (Sp.ct1 l) : Int) : Rat) ((1 : Int) : Rat)) = (Sp.frM l) from by (first | exact hr.1.symm | exact hr.2.1.symm | exact hr.2.2.symm | exact hr.1 | exact hr.2.1 | exact hr.2.2 | (rw [hr.1]; done) | (rw [hr.2.1]; done) | (rw [hr.2.2]; done)))) rfl))) (lcons (congrArg (Value.int .i64) (show (Sp.dve ((Sp.rdV (Sp.ct1 l) : Int) : Rat) ((1 : Int) : Rat)) = (Sp.frE l) from by (first | exact hr.1.symm | exact hr.2.1.symm | exact hr.2.2.symm | exact hr.1 | exact hr.2.1 | exact hr.2.2 | (rw [hr.1]; done) | (rw [hr.2.1]; done) | (rw [hr.2.2]; done)))) rfl))))


end Go.Proofs.YtngmegnaohmapaaDoor.Am
