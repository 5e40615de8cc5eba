/-
  The walks of the document's reading of numbers.
-/
import Derived.Test.YtngmegnaohmapaaDoorProg
import Derived.Test.YtngmegnaohmapaaDoorAm16
import Derived.Test.YtngmegnaohmapaaDoorNu1
import Derived.Test.YtngmegnaohmapaaDoorWd3
namespace Go.Proofs.YtngmegnaohmapaaDoor.Am
open Go Go.Proofs
set_option maxRecDepth 100000
set_option maxHeartbeats 4000000
set_option linter.unusedVariables false
set_option linter.unusedSimpArgs false

theorem numeral_ok (l : List UInt8) (hz : l.length ≤ 9223372036854775807) :
    AC Tryd.prog 28 0 ([.string (ByteArray.mk (l).toArray)]) [] (.tuple #[lval (Sp.rdV l), .int .i64 (Sp.rdE l)]) [] := by
  refine ac_in Tryd.func28 (fun w0 W pin => ?_)
  refine aw_p 3 (
    .a 2 1 <| .nil _ _) ?_
  refine aw_sq 6 7 ?_
  refine aw_p 13 (
    .a 1 2 <| .p (does_slen (x := .tmp 8) 9 l (by kernel_rfl) (by kernel_rfl) (by kernel_rfl) (by first | omega | (simp; done) | (simp; omega))) <| .a 1 2 <| .nil _ _) ?_
  refine aw_cd 26 27 (decide (((l.length : Nat) : Int) > 60)) (fun h1 => ?_) (fun h1 => ?_)
  · have h1p : ((((l.length : Nat) : Int) > 60)) := by first | (simpa using h1) | (have h1q := h1; simp at h1q; omega) | (have h1q := bx1 h1; simp at h1q; omega)
    have hr := Sp.rd_large (l := l) (by omega)
    have hbl := Sp.bdy_len l
    refine aw_p 53 (
      .a 3 2 <| .nil _ _) ?_
    refine aw_rt ?_
    refine then_ret ?_
    exact en_ret [.agg #[.int .u64 0, .int .u64 0, .int .u64 0, .int .u64 0, .int .u64 0, .int .u64 0, .int .u64 0], .int .i64 2] (show (.tuple #[.agg #[.int .u64 0, .int .u64 0, .int .u64 0, .int .u64 0, .int .u64 0, .int .u64 0, .int .u64 0], .int .i64 2] : Value) = (.tuple #[lval (Sp.rdV l), .int .i64 (Sp.rdE l)]) from (congrArg (fun z : List Value => Value.tuple z.toArray) (lcons (congrArg (fun z : List Value => Value.agg z.toArray) (lcons (congrArg (Value.int .u64) (show 0 = (Sp.dgt (Sp.rdV l) 0) from by (first | (rw [hr.2]; done) | (rw [hr.1]; done) | (rw [hr.1]; decide) | (rw [hr.1]; rfl)))) (lcons (congrArg (Value.int .u64) (show 0 = (Sp.dgt (Sp.rdV l) 1) from by (first | (rw [hr.2]; done) | (rw [hr.1]; done) | (rw [hr.1]; decide) | (rw [hr.1]; rfl)))) (lcons (congrArg (Value.int .u64) (show 0 = (Sp.dgt (Sp.rdV l) 2) from by (first | (rw [hr.2]; done) | (rw [hr.1]; done) | (rw [hr.1]; decide) | (rw [hr.1]; rfl)))) (lcons (congrArg (Value.int .u64) (show 0 = (Sp.dgt (Sp.rdV l) 3) from by (first | (rw [hr.2]; done) | (rw [hr.1]; done) | (rw [hr.1]; decide) | (rw [hr.1]; rfl)))) (lcons (congrArg (Value.int .u64) (show 0 = (Sp.dgt (Sp.rdV l) 4) from by (first | (rw [hr.2]; done) | (rw [hr.1]; done) | (rw [hr.1]; decide) | (rw [hr.1]; rfl)))) (lcons (congrArg (Value.int .u64) (show 0 = (Sp.dgt (Sp.rdV l) 5) from by (first | (rw [hr.2]; done) | (rw [hr.1]; done) | (rw [hr.1]; decide) | (rw [hr.1]; rfl)))) (lcons (congrArg (Value.int .u64) (show 0 = (Sp.dgt (Sp.rdV l) 6) from by (first | (rw [hr.2]; done) | (rw [hr.1]; done) | (rw [hr.1]; decide) | (rw [hr.1]; rfl)))) rfl)))))))) (lcons (congrArg (Value.int .i64) (show 2 = (Sp.rdE l) from by (first | (rw [hr.2]; done) | (rw [hr.1]; done) | (rw [hr.1]; decide) | (rw [hr.1]; rfl)))) rfl))))
  · have h1p : ¬ ((((l.length : Nat) : Int) > 60)) := by first | (simpa using h1) | (have h1q := h1; simp at h1q; omega) | (have h1q := bx2 h1; simp at h1q; omega)
    have h60 : ¬ 60 < l.length := by omega
    have hbl := Sp.bdy_len l
    refine aw_sk ?_
    refine then_normal ?_
    refine aw_p 15 (
      .a 1 2 <| .p (does_c (trimprefix_ok l (by first | omega | (simp; done) | (simp; omega)))) <| .a 1 2 <| .nil _ _) ?_
    refine aw_sq 30 31 ?_
    rcases Bool.eq_false_or_eq_true (((Sp.bdy l) == ([] : List UInt8))) with h2 | h2
    · have h2p : ((Sp.bdy l) = ([] : List UInt8)) := by first | (simpa using h2) | (have h2q := h2; simp at h2q; omega) | (have h2q := bx1 h2; simp at h2q; omega)
      have fA : (Sp.bdy l == []) = true := h2
      have hr := Sp.rd_bad h60 (Sp.bad_nn (by unfold Sp.badN; rw [fA]; rfl))
      refine aw_p 61 (
        .a 1 2 <| .p (does_bool (b' := true) (does_seq (t := 9) (t2 := 9) (x := .tmp 14) (y := .const (.string (ByteArray.mk #[]))) (Sp.bdy l) ([] : List UInt8) (by kernel_rfl) (by kernel_rfl) (by kernel_rfl)) (h2)) <| .a 13 2 <| .nil _ _) ?_
      refine aw_tr 122 ?_
      refine aw_p 245 (
        .a 3 2 <| .nil _ _) ?_
      refine aw_rt ?_
      refine then_ret ?_
      exact en_ret [.agg #[.int .u64 0, .int .u64 0, .int .u64 0, .int .u64 0, .int .u64 0, .int .u64 0, .int .u64 0], .int .i64 15] (show (.tuple #[.agg #[.int .u64 0, .int .u64 0, .int .u64 0, .int .u64 0, .int .u64 0, .int .u64 0, .int .u64 0], .int .i64 15] : Value) = (.tuple #[lval (Sp.rdV l), .int .i64 (Sp.rdE l)]) from (congrArg (fun z : List Value => Value.tuple z.toArray) (lcons (congrArg (fun z : List Value => Value.agg z.toArray) (lcons (congrArg (Value.int .u64) (show 0 = (Sp.dgt (Sp.rdV l) 0) from by (first | (rw [hr.2]; done) | (rw [hr.1]; done) | (rw [hr.1]; decide) | (rw [hr.1]; rfl)))) (lcons (congrArg (Value.int .u64) (show 0 = (Sp.dgt (Sp.rdV l) 1) from by (first | (rw [hr.2]; done) | (rw [hr.1]; done) | (rw [hr.1]; decide) | (rw [hr.1]; rfl)))) (lcons (congrArg (Value.int .u64) (show 0 = (Sp.dgt (Sp.rdV l) 2) from by (first | (rw [hr.2]; done) | (rw [hr.1]; done) | (rw [hr.1]; decide) | (rw [hr.1]; rfl)))) (lcons (congrArg (Value.int .u64) (show 0 = (Sp.dgt (Sp.rdV l) 3) from by (first | (rw [hr.2]; done) | (rw [hr.1]; done) | (rw [hr.1]; decide) | (rw [hr.1]; rfl)))) (lcons (congrArg (Value.int .u64) (show 0 = (Sp.dgt (Sp.rdV l) 4) from by (first | (rw [hr.2]; done) | (rw [hr.1]; done) | (rw [hr.1]; decide) | (rw [hr.1]; rfl)))) (lcons (congrArg (Value.int .u64) (show 0 = (Sp.dgt (Sp.rdV l) 5) from by (first | (rw [hr.2]; done) | (rw [hr.1]; done) | (rw [hr.1]; decide) | (rw [hr.1]; rfl)))) (lcons (congrArg (Value.int .u64) (show 0 = (Sp.dgt (Sp.rdV l) 6) from by (first | (rw [hr.2]; done) | (rw [hr.1]; done) | (rw [hr.1]; decide) | (rw [hr.1]; rfl)))) rfl)))))))) (lcons (congrArg (Value.int .i64) (show 15 = (Sp.rdE l) from by (first | (rw [hr.2]; done) | (rw [hr.1]; done) | (rw [hr.1]; decide) | (rw [hr.1]; rfl)))) rfl))))
    · have h2p : ¬ ((Sp.bdy l) = ([] : List UInt8)) := by first | (simpa using h2) | (have h2q := h2; simp at h2q; omega) | (have h2q := bx2 h2; simp at h2q; omega)
      have fA : (Sp.bdy l == []) = false := h2
      have hlen : 0 < (Sp.bdy l).length := List.length_pos_iff.2 (by simpa using fA)
      rcases Bool.eq_false_or_eq_true (!((Sp.bdy l) == ([48] : List UInt8))) with h3 | h3
      · have h3p : (¬ ((Sp.bdy l) = ([48] : List UInt8))) := by first | (simpa using h3) | (have h3q := h3; simp at h3q; omega) | (have h3q := bx3 h3; simp at h3q; omega)
        have fZ : (Sp.bdy l == [48]) = false := (by simpa using h3)
        rcases Bool.eq_false_or_eq_true (((((Sp.bdy l).getD (0) 0).toNat : Nat) : Int) == 48) with h4 | h4
        · have h4p : ((((((Sp.bdy l).getD (0) 0).toNat : Nat) : Int) = 48)) := by first | (simpa using h4) | (have h4q := h4; simp at h4q; omega) | (have h4q := bx1 h4; simp at h4q; omega)
          have fC : ((((Sp.bdy l).getD 0 0).toNat : Int) == 48) = true := h4
          have hr := Sp.rd_bad h60 (Sp.bad_nn (by unfold Sp.badN; rw [fA, fZ, fC]; rfl))
          refine aw_p 61 (
            .a 1 2 <| .p (does_bool (b' := false) (does_seq (t := 9) (t2 := 9) (x := .tmp 14) (y := .const (.string (ByteArray.mk #[]))) (Sp.bdy l) ([] : List UInt8) (by kernel_rfl) (by kernel_rfl) (by kernel_rfl)) (h2)) <| .a 2 2 <|
            .p (does_bool (b' := true) (does_sne (t := 9) (t2 := 9) (x := .tmp 17) (y := .const (.string (ByteArray.mk #[48]))) (Sp.bdy l) ([48] : List UInt8) (by kernel_rfl) (by kernel_rfl) (by kernel_rfl)) (h3)) <| .a 2 2 <|
            .p (does_six (t := 9) (x := .tmp 20) (y := .const (.int .i64 0)) (k := .i64) (j := 0) (Sp.bdy l) (0) (by kernel_rfl) (by kernel_rfl) (by kernel_rfl) (by kernel_rfl) (by omega) (by first | omega | (simp; done) | (simp; omega))) <| .p (does_b true (h4)) <| .a 6 2 <| .nil _ _) ?_
          refine aw_tr 122 ?_
          refine aw_p 245 (
            .a 3 2 <| .nil _ _) ?_
          refine aw_rt ?_
          refine then_ret ?_
          exact en_ret [.agg #[.int .u64 0, .int .u64 0, .int .u64 0, .int .u64 0, .int .u64 0, .int .u64 0, .int .u64 0], .int .i64 15] (show (.tuple #[.agg #[.int .u64 0, .int .u64 0, .int .u64 0, .int .u64 0, .int .u64 0, .int .u64 0, .int .u64 0], .int .i64 15] : Value) = (.tuple #[lval (Sp.rdV l), .int .i64 (Sp.rdE l)]) from (congrArg (fun z : List Value => Value.tuple z.toArray) (lcons (congrArg (fun z : List Value => Value.agg z.toArray) (lcons (congrArg (Value.int .u64) (show 0 = (Sp.dgt (Sp.rdV l) 0) from by (first | (rw [hr.2]; done) | (rw [hr.1]; done) | (rw [hr.1]; decide) | (rw [hr.1]; rfl)))) (lcons (congrArg (Value.int .u64) (show 0 = (Sp.dgt (Sp.rdV l) 1) from by (first | (rw [hr.2]; done) | (rw [hr.1]; done) | (rw [hr.1]; decide) | (rw [hr.1]; rfl)))) (lcons (congrArg (Value.int .u64) (show 0 = (Sp.dgt (Sp.rdV l) 2) from by (first | (rw [hr.2]; done) | (rw [hr.1]; done) | (rw [hr.1]; decide) | (rw [hr.1]; rfl)))) (lcons (congrArg (Value.int .u64) (show 0 = (Sp.dgt (Sp.rdV l) 3) from by (first | (rw [hr.2]; done) | (rw [hr.1]; done) | (rw [hr.1]; decide) | (rw [hr.1]; rfl)))) (lcons (congrArg (Value.int .u64) (show 0 = (Sp.dgt (Sp.rdV l) 4) from by (first | (rw [hr.2]; done) | (rw [hr.1]; done) | (rw [hr.1]; decide) | (rw [hr.1]; rfl)))) (lcons (congrArg (Value.int .u64) (show 0 = (Sp.dgt (Sp.rdV l) 5) from by (first | (rw [hr.2]; done) | (rw [hr.1]; done) | (rw [hr.1]; decide) | (rw [hr.1]; rfl)))) (lcons (congrArg (Value.int .u64) (show 0 = (Sp.dgt (Sp.rdV l) 6) from by (first | (rw [hr.2]; done) | (rw [hr.1]; done) | (rw [hr.1]; decide) | (rw [hr.1]; rfl)))) rfl)))))))) (lcons (congrArg (Value.int .i64) (show 15 = (Sp.rdE l) from by (first | (rw [hr.2]; done) | (rw [hr.1]; done) | (rw [hr.1]; decide) | (rw [hr.1]; rfl)))) rfl))))
        · have h4p : ¬ ((((((Sp.bdy l).getD (0) 0).toNat : Nat) : Int) = 48)) := by first | (simpa using h4) | (have h4q := h4; simp at h4q; omega) | (have h4q := bx2 h4; simp at h4q; omega)
          have fC : ((((Sp.bdy l).getD 0 0).toNat : Int) == 48) = false := h4
          refine aw_p 61 (
            .a 1 2 <| .p (does_bool (b' := false) (does_seq (t := 9) (t2 := 9) (x := .tmp 14) (y := .const (.string (ByteArray.mk #[]))) (Sp.bdy l) ([] : List UInt8) (by kernel_rfl) (by kernel_rfl) (by kernel_rfl)) (h2)) <| .a 2 2 <|
            .p (does_bool (b' := true) (does_sne (t := 9) (t2 := 9) (x := .tmp 17) (y := .const (.string (ByteArray.mk #[48]))) (Sp.bdy l) ([48] : List UInt8) (by kernel_rfl) (by kernel_rfl) (by kernel_rfl)) (h3)) <| .a 2 2 <|
            .p (does_six (t := 9) (x := .tmp 20) (y := .const (.int .i64 0)) (k := .i64) (j := 0) (Sp.bdy l) (0) (by kernel_rfl) (by kernel_rfl) (by kernel_rfl) (by kernel_rfl) (by omega) (by first | omega | (simp; done) | (simp; omega))) <| .p (does_b false (h4)) <| .a 4 2 <|
            .p (does_seq (t := 9) (t2 := 9) (x := .tmp 26) (y := .const (.string (ByteArray.mk #[45, 48]))) l ([45, 48] : List UInt8) (by kernel_rfl) (by kernel_rfl) (by kernel_rfl)) <| .a 1 2 <| .nil _ _) ?_
          refine aw_cd 122 123 (l == ([45, 48] : List UInt8)) (fun h5 => ?_) (fun h5 => ?_)
          · have h5p : (l = ([45, 48] : List UInt8)) := by first | (simpa using h5) | (have h5q := h5; simp at h5q; omega) | (have h5q := bx1 h5; simp at h5q; omega)
            have fM : (l == [45, 48]) = true := h5
            have hr := Sp.rd_bad h60 (Sp.bad_nn (by unfold Sp.badN; rw [fM]; simp))
            refine aw_p 245 (
              .a 3 2 <| .nil _ _) ?_
            refine aw_rt ?_
            refine then_ret ?_
            exact en_ret [.agg #[.int .u64 0, .int .u64 0, .int .u64 0, .int .u64 0, .int .u64 0, .int .u64 0, .int .u64 0], .int .i64 15] (show (.tuple #[.agg #[.int .u64 0, .int .u64 0, .int .u64 0, .int .u64 0, .int .u64 0, .int .u64 0, .int .u64 0], .int .i64 15] : Value) = (.tuple #[lval (Sp.rdV l), .int .i64 (Sp.rdE l)]) from (congrArg (fun z : List Value => Value.tuple z.toArray) (lcons (congrArg (fun z : List Value => Value.agg z.toArray) (lcons (congrArg (Value.int .u64) (show 0 = (Sp.dgt (Sp.rdV l) 0) from by (first | (rw [hr.2]; done) | (rw [hr.1]; done) | (rw [hr.1]; decide) | (rw [hr.1]; rfl)))) (lcons (congrArg (Value.int .u64) (show 0 = (Sp.dgt (Sp.rdV l) 1) from by (first | (rw [hr.2]; done) | (rw [hr.1]; done) | (rw [hr.1]; decide) | (rw [hr.1]; rfl)))) (lcons (congrArg (Value.int .u64) (show 0 = (Sp.dgt (Sp.rdV l) 2) from by (first | (rw [hr.2]; done) | (rw [hr.1]; done) | (rw [hr.1]; decide) | (rw [hr.1]; rfl)))) (lcons (congrArg (Value.int .u64) (show 0 = (Sp.dgt (Sp.rdV l) 3) from by (first | (rw [hr.2]; done) | (rw [hr.1]; done) | (rw [hr.1]; decide) | (rw [hr.1]; rfl)))) (lcons (congrArg (Value.int .u64) (show 0 = (Sp.dgt (Sp.rdV l) 4) from by (first | (rw [hr.2]; done) | (rw [hr.1]; done) | (rw [hr.1]; decide) | (rw [hr.1]; rfl)))) (lcons (congrArg (Value.int .u64) (show 0 = (Sp.dgt (Sp.rdV l) 5) from by (first | (rw [hr.2]; done) | (rw [hr.1]; done) | (rw [hr.1]; decide) | (rw [hr.1]; rfl)))) (lcons (congrArg (Value.int .u64) (show 0 = (Sp.dgt (Sp.rdV l) 6) from by (first | (rw [hr.2]; done) | (rw [hr.1]; done) | (rw [hr.1]; decide) | (rw [hr.1]; rfl)))) rfl)))))))) (lcons (congrArg (Value.int .i64) (show 15 = (Sp.rdE l) from by (first | (rw [hr.2]; done) | (rw [hr.1]; done) | (rw [hr.1]; decide) | (rw [hr.1]; rfl)))) rfl))))
          · have h5p : ¬ (l = ([45, 48] : List UInt8)) := by first | (simpa using h5) | (have h5q := h5; simp at h5q; omega) | (have h5q := bx2 h5; simp at h5q; omega)
            have fM : (l == [45, 48]) = false := h5
            have hbn : Sp.badN l = false := (by unfold Sp.badN; first | (rw [fA, fZ, fM]; rfl) | (rw [fA, fZ, fC, fM]; rfl))
            refine aw_sk ?_
            refine then_normal ?_
            refine aw_p 63 (
              .a 1 2 <| .nil _ _) ?_
            refine aw_sq 126 127 ?_
            refine aw_p 253 (
              .a 1 3 <| .p (does_bytes 3 5 (Sp.bdy l) (by kernel_rfl) (by kernel_rfl)) <| .a 2 4 <| .nil _ _) ?_
            refine aw_bl 0 507 ?_
            refine aw_lp 1015 ?_
            refine al_w [(0, .string (ByteArray.mk (l).toArray)), (2, .pointer (some ⟨1, 0, none⟩)), (3, .int .i64 0), (4, .string (ByteArray.mk (Sp.bdy l).toArray)), (5, .pointer (some ⟨2, 0, none⟩)), (31, .slice (some ⟨3, 0, none⟩) ((Sp.bdy l).length) 0), (32, .int .i64 (((Sp.bdy l).length : Nat) : Int)), (33, .int .i64 ((0 : Nat) : Int))] [(1, ⟨[.int .u64 0, .int .u64 0, .int .u64 0, .int .u64 0, .int .u64 0, .int .u64 0, .int .u64 0], 27, true, 1⟩), (2, ⟨(lds 0), 27, true, 1⟩), (3, ⟨((Sp.bdy l).map u8v), 5, false, 1⟩)] ?_ (hc := (by simp [closedB, valsB, valB, List.all_eq_true, List.mem_map, boolv, u8v, lds, flat1]; try (intros; simp [valsB, valB, flat1]); try decide))
            refine al_ind (fun i : Nat × Int => (fun (i : Nat) (o : Int) => mkSt 0 [(0, .string (ByteArray.mk (l).toArray)), (2, .pointer (some ⟨1, 0, none⟩)), (3, .int .i64 0), (4, .string (ByteArray.mk (Sp.bdy l).toArray)), (5, .pointer (some ⟨2, 0, none⟩)), (31, .slice (some ⟨3, 0, none⟩) ((Sp.bdy l).length) 0), (32, .int .i64 (((Sp.bdy l).length : Nat) : Int)), (33, .int .i64 ((i : Nat) : Int))] [(1, ⟨[.int .u64 0, .int .u64 0, .int .u64 0, .int .u64 0, .int .u64 0, .int .u64 0, .int .u64 0], 27, true, 1⟩), (2, ⟨(lds o), 27, true, 1⟩), (3, ⟨((Sp.bdy l).map u8v), 5, false, 1⟩)]) i.1 i.2) (fun i : Nat × Int => (fun (i : Nat) (o : Int) => (i ≤ (Sp.bdy l).length) ∧ (o = (Sp.rdN ((Sp.bdy l).take i) : Int)) ∧ (((Sp.bdy l).take i).all Sp.dgB = true)) i.1 i.2) (fun i : Nat × Int => (fun (i : Nat) (o : Int) => (Sp.bdy l).length - i) i.1 i.2) (fun i hi1 ih1 => ?_) (0, 0) (show (0 ≤ (Sp.bdy l).length) ∧ (0 = (Sp.rdN ((Sp.bdy l).take 0) : Int)) ∧ (((Sp.bdy l).take 0).all Sp.dgB = true) from ⟨by omega, by (rw [List.take_zero]; rfl), by (rw [List.take_zero]; rfl)⟩)
            obtain ⟨i, o⟩ := i
            have hi1' : (i ≤ (Sp.bdy l).length) ∧ (o = (Sp.rdN ((Sp.bdy l).take i) : Int)) ∧ (((Sp.bdy l).take i).all Sp.dgB = true) := hi1
            obtain ⟨hi, ho, hal⟩ := hi1'
            show AL _ _ _ (mkSt 0 [(0, .string (ByteArray.mk (l).toArray)), (2, .pointer (some ⟨1, 0, none⟩)), (3, .int .i64 0), (4, .string (ByteArray.mk (Sp.bdy l).toArray)), (5, .pointer (some ⟨2, 0, none⟩)), (31, .slice (some ⟨3, 0, none⟩) ((Sp.bdy l).length) 0), (32, .int .i64 (((Sp.bdy l).length : Nat) : Int)), (33, .int .i64 ((i : Nat) : Int))] [(1, ⟨[.int .u64 0, .int .u64 0, .int .u64 0, .int .u64 0, .int .u64 0, .int .u64 0, .int .u64 0], 27, true, 1⟩), (2, ⟨(lds o), 27, true, 1⟩), (3, ⟨((Sp.bdy l).map u8v), 5, false, 1⟩)]) _
            have hob := Sp.rdN_bd (l := Sp.bdy l) (i := i) (by omega) hi hal
            refine al_round ?_
            refine aw_p 2031 (
              .a 1 4 <| .nil _ _) ?_
            refine aw_sq 4062 4063 ?_
            refine aw_cd 8124 8125 (decide (((i : Nat) : Int) < (((Sp.bdy l).length : Nat) : Int))) (fun h6 => ?_) (fun h6 => ?_)
            · have h6p : ((((i : Nat) : Int) < (((Sp.bdy l).length : Nat) : Int))) := by first | (simpa using h6) | (have h6q := h6; simp at h6q; omega) | (have h6q := bx1 h6; simp at h6q; omega)
              have hil : i < (Sp.bdy l).length := by omega
              refine aw_sk ?_
              refine then_normal ?_
              refine aw_sq 8126 8127 ?_
              refine aw_bl 1 16253 ?_
              refine aw_p 32507 (
                .p (does_indexSlice (t := 75) (x := .tmp 31) (y := .tmp 33) (k := 3) (off := 0) (n := ((Sp.bdy l).length)) (c := 0) (z := 1) (kd := .i64) (j := ((i : Nat) : Int)) (by kernel_rfl) (by kernel_rfl) (by kernel_rfl) (by kernel_rfl) (by kernel_rfl) (by omega) (by omega)) <|
                .p (does_load (t := 5) (x := .tmp 35) (k := 3) (off := (0 + (((i : Nat) : Int)).toNat * 1)) (b := ⟨((Sp.bdy l).map u8v), 5, false, 1⟩) (v := .int .u8 ((((Sp.bdy l).getD i 0).toNat : Nat) : Int)) (by kernel_rfl) (by kernel_rfl) (by kernel_rfl) (by rw [show (0 + (((i : Nat) : Int)).toNat * 1) = i from (by omega)]; exact ldV_map (f := u8v) (j := i) 0 (by kernel_rfl) (by kernel_rfl) (by omega))) <|
                .a 1 4 <| .nil _ _) ?_
              refine aw_sq 65014 65015 ?_
              rcases Bool.eq_false_or_eq_true (decide (((((Sp.bdy l).getD i 0).toNat : Nat) : Int) < 48)) with h7 | h7
              · have h7p : ((((((Sp.bdy l).getD i 0).toNat : Nat) : Int) < 48)) := by first | (simpa using h7) | (have h7q := h7; simp at h7q; omega) | (have h7q := bx1 h7; simp at h7q; omega)
                have hr := Sp.rd_bad h60 (Sp.bad_all (Sp.not_all hil (by omega)))
                refine aw_p 130029 (
                  .a 1 4 <| .p (does_b true (h7)) <| .a 4 4 <| .nil _ _) ?_
                refine aw_tr 260058 ?_
                refine aw_p 520117 (
                  .a 3 4 <| .nil _ _) ?_
                refine aw_rt ?_
                refine then_ret ?_
                refine block_ret ?_
                refine then_ret ?_
                refine then_ret ?_
                refine block_ret ?_
                refine then_ret ?_
                exact en_ret [.agg #[.int .u64 0, .int .u64 0, .int .u64 0, .int .u64 0, .int .u64 0, .int .u64 0, .int .u64 0], .int .i64 15] (show (.tuple #[.agg #[.int .u64 0, .int .u64 0, .int .u64 0, .int .u64 0, .int .u64 0, .int .u64 0, .int .u64 0], .int .i64 15] : Value) = (.tuple #[lval (Sp.rdV l), .int .i64 (Sp.rdE l)]) from (congrArg (fun z : List Value => Value.tuple z.toArray) (lcons (congrArg (fun z : List Value => Value.agg z.toArray) (lcons (congrArg (Value.int .u64) (show 0 = (Sp.dgt (Sp.rdV l) 0) from by (first | (rw [hr.2]; done) | (rw [hr.1]; done) | (rw [hr.1]; decide) | (rw [hr.1]; rfl)))) (lcons (congrArg (Value.int .u64) (show 0 = (Sp.dgt (Sp.rdV l) 1) from by (first | (rw [hr.2]; done) | (rw [hr.1]; done) | (rw [hr.1]; decide) | (rw [hr.1]; rfl)))) (lcons (congrArg (Value.int .u64) (show 0 = (Sp.dgt (Sp.rdV l) 2) from by (first | (rw [hr.2]; done) | (rw [hr.1]; done) | (rw [hr.1]; decide) | (rw [hr.1]; rfl)))) (lcons (congrArg (Value.int .u64) (show 0 = (Sp.dgt (Sp.rdV l) 3) from by (first | (rw [hr.2]; done) | (rw [hr.1]; done) | (rw [hr.1]; decide) | (rw [hr.1]; rfl)))) (lcons (congrArg (Value.int .u64) (show 0 = (Sp.dgt (Sp.rdV l) 4) from by (first | (rw [hr.2]; done) | (rw [hr.1]; done) | (rw [hr.1]; decide) | (rw [hr.1]; rfl)))) (lcons (congrArg (Value.int .u64) (show 0 = (Sp.dgt (Sp.rdV l) 5) from by (first | (rw [hr.2]; done) | (rw [hr.1]; done) | (rw [hr.1]; decide) | (rw [hr.1]; rfl)))) (lcons (congrArg (Value.int .u64) (show 0 = (Sp.dgt (Sp.rdV l) 6) from by (first | (rw [hr.2]; done) | (rw [hr.1]; done) | (rw [hr.1]; decide) | (rw [hr.1]; rfl)))) rfl)))))))) (lcons (congrArg (Value.int .i64) (show 15 = (Sp.rdE l) from by (first | (rw [hr.2]; done) | (rw [hr.1]; done) | (rw [hr.1]; decide) | (rw [hr.1]; rfl)))) rfl))))
              · have h7p : ¬ ((((((Sp.bdy l).getD i 0).toNat : Nat) : Int) < 48)) := by first | (simpa using h7) | (have h7q := h7; simp at h7q; omega) | (have h7q := bx2 h7; simp at h7q; omega)
                refine aw_p 130029 (
                  .a 1 4 <| .p (does_b false (h7)) <| .a 4 4 <| .nil _ _) ?_
                refine aw_cd 260058 260059 (decide (((((Sp.bdy l).getD i 0).toNat : Nat) : Int) > 57)) (fun h8 => ?_) (fun h8 => ?_)
                · have h8p : ((((((Sp.bdy l).getD i 0).toNat : Nat) : Int) > 57)) := by first | (simpa using h8) | (have h8q := h8; simp at h8q; omega) | (have h8q := bx1 h8; simp at h8q; omega)
                  have hr := Sp.rd_bad h60 (Sp.bad_all (Sp.not_all hil (by omega)))
                  refine aw_p 520117 (
                    .a 3 4 <| .nil _ _) ?_
                  refine aw_rt ?_
                  refine then_ret ?_
                  refine block_ret ?_
                  refine then_ret ?_
                  refine then_ret ?_
                  refine block_ret ?_
                  refine then_ret ?_
                  exact en_ret [.agg #[.int .u64 0, .int .u64 0, .int .u64 0, .int .u64 0, .int .u64 0, .int .u64 0, .int .u64 0], .int .i64 15] (show (.tuple #[.agg #[.int .u64 0, .int .u64 0, .int .u64 0, .int .u64 0, .int .u64 0, .int .u64 0, .int .u64 0], .int .i64 15] : Value) = (.tuple #[lval (Sp.rdV l), .int .i64 (Sp.rdE l)]) from (congrArg (fun z : List Value => Value.tuple z.toArray) (lcons (congrArg (fun z : List Value => Value.agg z.toArray) (lcons (congrArg (Value.int .u64) (show 0 = (Sp.dgt (Sp.rdV l) 0) from by (first | (rw [hr.2]; done) | (rw [hr.1]; done) | (rw [hr.1]; decide) | (rw [hr.1]; rfl)))) (lcons (congrArg (Value.int .u64) (show 0 = (Sp.dgt (Sp.rdV l) 1) from by (first | (rw [hr.2]; done) | (rw [hr.1]; done) | (rw [hr.1]; decide) | (rw [hr.1]; rfl)))) (lcons (congrArg (Value.int .u64) (show 0 = (Sp.dgt (Sp.rdV l) 2) from by (first | (rw [hr.2]; done) | (rw [hr.1]; done) | (rw [hr.1]; decide) | (rw [hr.1]; rfl)))) (lcons (congrArg (Value.int .u64) (show 0 = (Sp.dgt (Sp.rdV l) 3) from by (first | (rw [hr.2]; done) | (rw [hr.1]; done) | (rw [hr.1]; decide) | (rw [hr.1]; rfl)))) (lcons (congrArg (Value.int .u64) (show 0 = (Sp.dgt (Sp.rdV l) 4) from by (first | (rw [hr.2]; done) | (rw [hr.1]; done) | (rw [hr.1]; decide) | (rw [hr.1]; rfl)))) (lcons (congrArg (Value.int .u64) (show 0 = (Sp.dgt (Sp.rdV l) 5) from by (first | (rw [hr.2]; done) | (rw [hr.1]; done) | (rw [hr.1]; decide) | (rw [hr.1]; rfl)))) (lcons (congrArg (Value.int .u64) (show 0 = (Sp.dgt (Sp.rdV l) 6) from by (first | (rw [hr.2]; done) | (rw [hr.1]; done) | (rw [hr.1]; decide) | (rw [hr.1]; rfl)))) rfl)))))))) (lcons (congrArg (Value.int .i64) (show 15 = (Sp.rdE l) from by (first | (rw [hr.2]; done) | (rw [hr.1]; done) | (rw [hr.1]; decide) | (rw [hr.1]; rfl)))) rfl))))
                · have h8p : ¬ ((((((Sp.bdy l).getD i 0).toNat : Nat) : Int) > 57)) := by first | (simpa using h8) | (have h8q := h8; simp at h8q; omega) | (have h8q := bx2 h8; simp at h8q; omega)
                  refine aw_sk ?_
                  refine then_normal ?_
                  refine aw_d1 (
                    .a 1 4 <| .p (does_c (llof_ok 10 (by decide) (by decide))) <| .p (does_c (ltimes_ok o 10)) <| .a 1 4 <| .p (does_i ((((Sp.bdy l).getD i 0).toNat : Nat) : Int) (wrap_i64 (by omega) (by omega)) .i64) <|
                    .p (does_i (((((Sp.bdy l).getD i 0).toNat : Nat) : Int) - 48) (wrap_i64 (by omega) (by omega)) .i64) <| .p (does_c (llof_ok (((((Sp.bdy l).getD i 0).toNat : Nat) : Int) - 48) (by omega) (by omega))) <| .p (does_c (lplus_ok (o * 10) (((((Sp.bdy l).getD i 0).toNat : Nat) : Int) - 48))) <| .a 1 4 <| .nil _ _) ?_
                  refine block_normal ?_
                  refine then_normal ?_
                  refine aw_p1 (
                    .p (does_i (((i : Nat) : Int) + 1) (wrap_i64 (by omega) (by omega)) .i64) <| .a 1 4 <| .nil _ _) ?_
                  refine then_normal ?_
                  refine al_w [(0, .string (ByteArray.mk (l).toArray)), (2, .pointer (some ⟨1, 0, none⟩)), (3, .int .i64 0), (4, .string (ByteArray.mk (Sp.bdy l).toArray)), (5, .pointer (some ⟨2, 0, none⟩)), (31, .slice (some ⟨3, 0, none⟩) ((Sp.bdy l).length) 0), (32, .int .i64 (((Sp.bdy l).length : Nat) : Int)), (33, .int .i64 (((i + 1) : Nat) : Int))] [(1, ⟨[.int .u64 0, .int .u64 0, .int .u64 0, .int .u64 0, .int .u64 0, .int .u64 0, .int .u64 0], 27, true, 1⟩), (2, ⟨(lds ((o * 10) + (((((Sp.bdy l).getD i 0).toNat : Nat) : Int) - 48))), 27, true, 1⟩), (3, ⟨((Sp.bdy l).map u8v), 5, false, 1⟩)] ?_ (hc := (by simp [closedB, valsB, valB, List.all_eq_true, List.mem_map, boolv, u8v, lds, flat1]; try (intros; simp [valsB, valB, flat1]); try decide))
                  exact ih1 ((i + 1), ((o * 10) + (((((Sp.bdy l).getD i 0).toNat : Nat) : Int) - 48))) (show ((i + 1) ≤ (Sp.bdy l).length) ∧ (((o * 10) + (((((Sp.bdy l).getD i 0).toNat : Nat) : Int) - 48)) = (Sp.rdN ((Sp.bdy l).take (i + 1)) : Int)) ∧ (((Sp.bdy l).take (i + 1)).all Sp.dgB = true) from ⟨by omega, by (rw [ho]; exact (Sp.rd_next' hil (by omega)).symm), by exact Sp.all_snocD hil hal (by omega)⟩) (show (Sp.bdy l).length - (i + 1) < (Sp.bdy l).length - i from by omega)
            · have h6p : ¬ ((((i : Nat) : Int) < (((Sp.bdy l).length : Nat) : Int))) := by first | (simpa using h6) | (have h6q := h6; simp at h6q; omega) | (have h6q := bx2 h6; simp at h6q; omega)
              have hie : i = (Sp.bdy l).length := by omega
              have fB : (Sp.bdy l).all Sp.dgB = true := (by rw [hie, List.take_length] at hal; exact hal)
              have hb : Sp.badT l = false := (by rw [Sp.bad_n fB]; exact hbn)
              have hrd : o = (Sp.rdN (Sp.bdy l) : Int) := (by rw [ho, hie, List.take_length])
              refine aw_ex 0 ?_
              refine then_exit ?_
              refine then_exit ?_
              refine block_exit ?_
              refine then_normal ?_
              refine aw_sq 254 255 ?_
              refine aw_p 509 (
                .a 2 4 <| .p (does_bool (b' := (Sp.hp45 l)) (does_sne (t := 9) (t2 := 9) (x := .tmp 53) (y := .tmp 54) (Sp.bdy l) l (by kernel_rfl) (by kernel_rfl) (by kernel_rfl)) ((Sp.bdy_ne l))) <| .nil _ _) ?_
              refine aw_cd 1018 1019 (Sp.hp45 l) (fun h9 => ?_) (fun h9 => ?_)
              · have hp : Sp.hp45 l = true := h9
                have hv : -o = Sp.vlT l := (by unfold Sp.vlT; rw [hp, hrd]; rfl)
                refine aw_p1 (
                  .a 1 4 <| .p (does_c (lneg_ok o)) <| .a 1 4 <| .nil _ _) ?_
                refine then_normal ?_
                refine aw_sq 510 511 ?_
                refine aw_p 1021 (
                  .a 1 4 <| .p (does_c (lfits_ok (-o) (by omega) (by omega))) <| .a 1 4 <| .nil _ _) ?_
                refine aw_cd 2042 2043 (!(Sp.in128 (-o))) (fun h10 => ?_) (fun h10 => ?_)
                · have hr := Sp.rd_out h60 hb (by rw [← hv]; exact (by simpa using h10))
                  refine aw_p 4085 (
                    .a 3 4 <| .nil _ _) ?_
                  refine aw_rt ?_
                  refine then_ret ?_
                  exact en_ret [.agg #[.int .u64 0, .int .u64 0, .int .u64 0, .int .u64 0, .int .u64 0, .int .u64 0, .int .u64 0], .int .i64 2] (show (.tuple #[.agg #[.int .u64 0, .int .u64 0, .int .u64 0, .int .u64 0, .int .u64 0, .int .u64 0, .int .u64 0], .int .i64 2] : Value) = (.tuple #[lval (Sp.rdV l), .int .i64 (Sp.rdE l)]) from (congrArg (fun z : List Value => Value.tuple z.toArray) (lcons (congrArg (fun z : List Value => Value.agg z.toArray) (lcons (congrArg (Value.int .u64) (show 0 = (Sp.dgt (Sp.rdV l) 0) from by (first | (rw [hr.2]; done) | (rw [hr.1]; done) | (rw [hr.1]; decide) | (rw [hr.1]; rfl)))) (lcons (congrArg (Value.int .u64) (show 0 = (Sp.dgt (Sp.rdV l) 1) from by (first | (rw [hr.2]; done) | (rw [hr.1]; done) | (rw [hr.1]; decide) | (rw [hr.1]; rfl)))) (lcons (congrArg (Value.int .u64) (show 0 = (Sp.dgt (Sp.rdV l) 2) from by (first | (rw [hr.2]; done) | (rw [hr.1]; done) | (rw [hr.1]; decide) | (rw [hr.1]; rfl)))) (lcons (congrArg (Value.int .u64) (show 0 = (Sp.dgt (Sp.rdV l) 3) from by (first | (rw [hr.2]; done) | (rw [hr.1]; done) | (rw [hr.1]; decide) | (rw [hr.1]; rfl)))) (lcons (congrArg (Value.int .u64) (show 0 = (Sp.dgt (Sp.rdV l) 4) from by (first | (rw [hr.2]; done) | (rw [hr.1]; done) | (rw [hr.1]; decide) | (rw [hr.1]; rfl)))) (lcons (congrArg (Value.int .u64) (show 0 = (Sp.dgt (Sp.rdV l) 5) from by (first | (rw [hr.2]; done) | (rw [hr.1]; done) | (rw [hr.1]; decide) | (rw [hr.1]; rfl)))) (lcons (congrArg (Value.int .u64) (show 0 = (Sp.dgt (Sp.rdV l) 6) from by (first | (rw [hr.2]; done) | (rw [hr.1]; done) | (rw [hr.1]; decide) | (rw [hr.1]; rfl)))) rfl)))))))) (lcons (congrArg (Value.int .i64) (show 2 = (Sp.rdE l) from by (first | (rw [hr.2]; done) | (rw [hr.1]; done) | (rw [hr.1]; decide) | (rw [hr.1]; rfl)))) rfl))))
                · have hr := Sp.rd_in h60 hb (by rw [← hv]; exact (by simpa using h10))
                  rw [← hv] at hr
                  refine aw_sk ?_
                  refine then_normal ?_
                  refine aw_p 1023 (
                    .a 3 4 <| .nil _ _) ?_
                  refine aw_rt ?_
                  exact en_ret [lval (-o), .int .i64 0] (show (.tuple #[lval (-o), .int .i64 0] : Value) = (.tuple #[lval (Sp.rdV l), .int .i64 (Sp.rdE l)]) from (congrArg (fun z : List Value => Value.tuple z.toArray) (lcons (congrArg (fun z : List Value => Value.agg z.toArray) (lcons (congrArg (Value.int .u64) (show (Sp.dgt (-o) 0) = (Sp.dgt (Sp.rdV l) 0) from by (first | (rw [hr.2]; done) | (rw [hr.1]; done) | (rw [hr.1]; decide) | (rw [hr.1]; rfl)))) (lcons (congrArg (Value.int .u64) (show (Sp.dgt (-o) 1) = (Sp.dgt (Sp.rdV l) 1) from by (first | (rw [hr.2]; done) | (rw [hr.1]; done) | (rw [hr.1]; decide) | (rw [hr.1]; rfl)))) (lcons (congrArg (Value.int .u64) (show (Sp.dgt (-o) 2) = (Sp.dgt (Sp.rdV l) 2) from by (first | (rw [hr.2]; done) | (rw [hr.1]; done) | (rw [hr.1]; decide) | (rw [hr.1]; rfl)))) (lcons (congrArg (Value.int .u64) (show (Sp.dgt (-o) 3) = (Sp.dgt (Sp.rdV l) 3) from by (first | (rw [hr.2]; done) | (rw [hr.1]; done) | (rw [hr.1]; decide) | (rw [hr.1]; rfl)))) (lcons (congrArg (Value.int .u64) (show (Sp.dgt (-o) 4) = (Sp.dgt (Sp.rdV l) 4) from by (first | (rw [hr.2]; done) | (rw [hr.1]; done) | (rw [hr.1]; decide) | (rw [hr.1]; rfl)))) (lcons (congrArg (Value.int .u64) (show (Sp.dgt (-o) 5) = (Sp.dgt (Sp.rdV l) 5) from by (first | (rw [hr.2]; done) | (rw [hr.1]; done) | (rw [hr.1]; decide) | (rw [hr.1]; rfl)))) (lcons (congrArg (Value.int .u64) (show (Sp.dgt (-o) 6) = (Sp.dgt (Sp.rdV l) 6) from by (first | (rw [hr.2]; done) | (rw [hr.1]; done) | (rw [hr.1]; decide) | (rw [hr.1]; rfl)))) rfl)))))))) (lcons (congrArg (Value.int .i64) (show 0 = (Sp.rdE l) from by (first | (rw [hr.2]; done) | (rw [hr.1]; done) | (rw [hr.1]; decide) | (rw [hr.1]; rfl)))) rfl))))
              · have hp : Sp.hp45 l = false := h9
                have hv : o = Sp.vlT l := (by unfold Sp.vlT; rw [hp, hrd]; rfl)
                refine aw_sk ?_
                refine then_normal ?_
                refine aw_sq 510 511 ?_
                refine aw_p 1021 (
                  .a 1 4 <| .p (does_c (lfits_ok o (by omega) (by omega))) <| .a 1 4 <| .nil _ _) ?_
                refine aw_cd 2042 2043 (!(Sp.in128 o)) (fun h11 => ?_) (fun h11 => ?_)
                · have hr := Sp.rd_out h60 hb (by rw [← hv]; exact (by simpa using h11))
                  refine aw_p 4085 (
                    .a 3 4 <| .nil _ _) ?_
                  refine aw_rt ?_
                  refine then_ret ?_
                  exact en_ret [.agg #[.int .u64 0, .int .u64 0, .int .u64 0, .int .u64 0, .int .u64 0, .int .u64 0, .int .u64 0], .int .i64 2] (show (.tuple #[.agg #[.int .u64 0, .int .u64 0, .int .u64 0, .int .u64 0, .int .u64 0, .int .u64 0, .int .u64 0], .int .i64 2] : Value) = (.tuple #[lval (Sp.rdV l), .int .i64 (Sp.rdE l)]) from (congrArg (fun z : List Value => Value.tuple z.toArray) (lcons (congrArg (fun z : List Value => Value.agg z.toArray) (lcons (congrArg (Value.int .u64) (show 0 = (Sp.dgt (Sp.rdV l) 0) from by (first | (rw [hr.2]; done) | (rw [hr.1]; done) | (rw [hr.1]; decide) | (rw [hr.1]; rfl)))) (lcons (congrArg (Value.int .u64) (show 0 = (Sp.dgt (Sp.rdV l) 1) from by (first | (rw [hr.2]; done) | (rw [hr.1]; done) | (rw [hr.1]; decide) | (rw [hr.1]; rfl)))) (lcons (congrArg (Value.int .u64) (show 0 = (Sp.dgt (Sp.rdV l) 2) from by (first | (rw [hr.2]; done) | (rw [hr.1]; done) | (rw [hr.1]; decide) | (rw [hr.1]; rfl)))) (lcons (congrArg (Value.int .u64) (show 0 = (Sp.dgt (Sp.rdV l) 3) from by (first | (rw [hr.2]; done) | (rw [hr.1]; done) | (rw [hr.1]; decide) | (rw [hr.1]; rfl)))) (lcons (congrArg (Value.int .u64) (show 0 = (Sp.dgt (Sp.rdV l) 4) from by (first | (rw [hr.2]; done) | (rw [hr.1]; done) | (rw [hr.1]; decide) | (rw [hr.1]; rfl)))) (lcons (congrArg (Value.int .u64) (show 0 = (Sp.dgt (Sp.rdV l) 5) from by (first | (rw [hr.2]; done) | (rw [hr.1]; done) | (rw [hr.1]; decide) | (rw [hr.1]; rfl)))) (lcons (congrArg (Value.int .u64) (show 0 = (Sp.dgt (Sp.rdV l) 6) from by (first | (rw [hr.2]; done) | (rw [hr.1]; done) | (rw [hr.1]; decide) | (rw [hr.1]; rfl)))) rfl)))))))) (lcons (congrArg (Value.int .i64) (show 2 = (Sp.rdE l) from by (first | (rw [hr.2]; done) | (rw [hr.1]; done) | (rw [hr.1]; decide) | (rw [hr.1]; rfl)))) rfl))))
                · have hr := Sp.rd_in h60 hb (by rw [← hv]; exact (by simpa using h11))
                  rw [← hv] at hr
                  refine aw_sk ?_
                  refine then_normal ?_
                  refine aw_p 1023 (
                    .a 3 4 <| .nil _ _) ?_
                  refine aw_rt ?_
                  exact en_ret [lval o, .int .i64 0] (show (.tuple #[lval o, .int .i64 0] : Value) = (.tuple #[lval (Sp.rdV l), .int .i64 (Sp.rdE l)]) from (congrArg (fun z : List Value => Value.tuple z.toArray) (lcons (congrArg (fun z : List Value => Value.agg z.toArray) (lcons (congrArg (Value.int .u64) (show (Sp.dgt o 0) = (Sp.dgt (Sp.rdV l) 0) from by (first | (rw [hr.2]; done) | (rw [hr.1]; done) | (rw [hr.1]; decide) | (rw [hr.1]; rfl)))) (lcons (congrArg (Value.int .u64) (show (Sp.dgt o 1) = (Sp.dgt (Sp.rdV l) 1) from by (first | (rw [hr.2]; done) | (rw [hr.1]; done) | (rw [hr.1]; decide) | (rw [hr.1]; rfl)))) (lcons (congrArg (Value.int .u64) (show (Sp.dgt o 2) = (Sp.dgt (Sp.rdV l) 2) from by (first | (rw [hr.2]; done) | (rw [hr.1]; done) | (rw [hr.1]; decide) | (rw [hr.1]; rfl)))) (lcons (congrArg (Value.int .u64) (show (Sp.dgt o 3) = (Sp.dgt (Sp.rdV l) 3) from by (first | (rw [hr.2]; done) | (rw [hr.1]; done) | (rw [hr.1]; decide) | (rw [hr.1]; rfl)))) (lcons (congrArg (Value.int .u64) (show (Sp.dgt o 4) = (Sp.dgt (Sp.rdV l) 4) from by (first | (rw [hr.2]; done) | (rw [hr.1]; done) | (rw [hr.1]; decide) | (rw [hr.1]; rfl)))) (lcons (congrArg (Value.int .u64) (show (Sp.dgt o 5) = (Sp.dgt (Sp.rdV l) 5) from by (first | (rw [hr.2]; done) | (rw [hr.1]; done) | (rw [hr.1]; decide) | (rw [hr.1]; rfl)))) (lcons (congrArg (Value.int .u64) (show (Sp.dgt o 6) = (Sp.dgt (Sp.rdV l) 6) from by (first | (rw [hr.2]; done) | (rw [hr.1]; done) | (rw [hr.1]; decide) | (rw [hr.1]; rfl)))) rfl)))))))) (lcons (congrArg (Value.int .i64) (show 0 = (Sp.rdE l) from by (first | (rw [hr.2]; done) | (rw [hr.1]; done) | (rw [hr.1]; decide) | (rw [hr.1]; rfl)))) rfl))))
      · have h3p : ¬ (¬ ((Sp.bdy l) = ([48] : List UInt8))) := by first | (simpa using h3) | (have h3q := h3; simp at h3q; omega) | (have h3q := bx4 h3; simp at h3q; omega)
        have fZ : (Sp.bdy l == [48]) = true := (by simpa using h3)
        refine aw_p 61 (
          .a 1 2 <| .p (does_bool (b' := false) (does_seq (t := 9) (t2 := 9) (x := .tmp 14) (y := .const (.string (ByteArray.mk #[]))) (Sp.bdy l) ([] : List UInt8) (by kernel_rfl) (by kernel_rfl) (by kernel_rfl)) (h2)) <| .a 2 2 <|
          .p (does_bool (b' := false) (does_sne (t := 9) (t2 := 9) (x := .tmp 17) (y := .const (.string (ByteArray.mk #[48]))) (Sp.bdy l) ([48] : List UInt8) (by kernel_rfl) (by kernel_rfl) (by kernel_rfl)) (h3)) <| .a 8 2 <|
          .p (does_seq (t := 9) (t2 := 9) (x := .tmp 26) (y := .const (.string (ByteArray.mk #[45, 48]))) l ([45, 48] : List UInt8) (by kernel_rfl) (by kernel_rfl) (by kernel_rfl)) <| .a 1 2 <| .nil _ _) ?_
        refine aw_cd 122 123 (l == ([45, 48] : List UInt8)) (fun h12 => ?_) (fun h12 => ?_)
        · have h12p : (l = ([45, 48] : List UInt8)) := by first | (simpa using h12) | (have h12q := h12; simp at h12q; omega) | (have h12q := bx1 h12; simp at h12q; omega)
          have fM : (l == [45, 48]) = true := h12
          have hr := Sp.rd_bad h60 (Sp.bad_nn (by unfold Sp.badN; rw [fM]; simp))
          refine aw_p 245 (
            .a 3 2 <| .nil _ _) ?_
          refine aw_rt ?_
          refine then_ret ?_
          exact en_ret [.agg #[.int .u64 0, .int .u64 0, .int .u64 0, .int .u64 0, .int .u64 0, .int .u64 0, .int .u64 0], .int .i64 15] (show (.tuple #[.agg #[.int .u64 0, .int .u64 0, .int .u64 0, .int .u64 0, .int .u64 0, .int .u64 0, .int .u64 0], .int .i64 15] : Value) = (.tuple #[lval (Sp.rdV l), .int .i64 (Sp.rdE l)]) from (congrArg (fun z : List Value => Value.tuple z.toArray) (lcons (congrArg (fun z : List Value => Value.agg z.toArray) (lcons (congrArg (Value.int .u64) (show 0 = (Sp.dgt (Sp.rdV l) 0) from by (first | (rw [hr.2]; done) | (rw [hr.1]; done) | (rw [hr.1]; decide) | (rw [hr.1]; rfl)))) (lcons (congrArg (Value.int .u64) (show 0 = (Sp.dgt (Sp.rdV l) 1) from by (first | (rw [hr.2]; done) | (rw [hr.1]; done) | (rw [hr.1]; decide) | (rw [hr.1]; rfl)))) (lcons (congrArg (Value.int .u64) (show 0 = (Sp.dgt (Sp.rdV l) 2) from by (first | (rw [hr.2]; done) | (rw [hr.1]; done) | (rw [hr.1]; decide) | (rw [hr.1]; rfl)))) (lcons (congrArg (Value.int .u64) (show 0 = (Sp.dgt (Sp.rdV l) 3) from by (first | (rw [hr.2]; done) | (rw [hr.1]; done) | (rw [hr.1]; decide) | (rw [hr.1]; rfl)))) (lcons (congrArg (Value.int .u64) (show 0 = (Sp.dgt (Sp.rdV l) 4) from by (first | (rw [hr.2]; done) | (rw [hr.1]; done) | (rw [hr.1]; decide) | (rw [hr.1]; rfl)))) (lcons (congrArg (Value.int .u64) (show 0 = (Sp.dgt (Sp.rdV l) 5) from by (first | (rw [hr.2]; done) | (rw [hr.1]; done) | (rw [hr.1]; decide) | (rw [hr.1]; rfl)))) (lcons (congrArg (Value.int .u64) (show 0 = (Sp.dgt (Sp.rdV l) 6) from by (first | (rw [hr.2]; done) | (rw [hr.1]; done) | (rw [hr.1]; decide) | (rw [hr.1]; rfl)))) rfl)))))))) (lcons (congrArg (Value.int .i64) (show 15 = (Sp.rdE l) from by (first | (rw [hr.2]; done) | (rw [hr.1]; done) | (rw [hr.1]; decide) | (rw [hr.1]; rfl)))) rfl))))
        · have h12p : ¬ (l = ([45, 48] : List UInt8)) := by first | (simpa using h12) | (have h12q := h12; simp at h12q; omega) | (have h12q := bx2 h12; simp at h12q; omega)
          have fM : (l == [45, 48]) = false := h12
          have hbn : Sp.badN l = false := (by unfold Sp.badN; first | (rw [fA, fZ, fM]; rfl) | (rw [fA, fZ, fC, fM]; rfl))
          refine aw_sk ?_
          refine then_normal ?_
          refine aw_p 63 (
            .a 1 2 <| .nil _ _) ?_
          refine aw_sq 126 127 ?_
          refine aw_p 253 (
            .a 1 3 <| .p (does_bytes 3 5 (Sp.bdy l) (by kernel_rfl) (by kernel_rfl)) <| .a 2 4 <| .nil _ _) ?_
          refine aw_bl 0 507 ?_
          refine aw_lp 1015 ?_
          refine al_w [(0, .string (ByteArray.mk (l).toArray)), (2, .pointer (some ⟨1, 0, none⟩)), (3, .int .i64 0), (4, .string (ByteArray.mk (Sp.bdy l).toArray)), (5, .pointer (some ⟨2, 0, none⟩)), (31, .slice (some ⟨3, 0, none⟩) ((Sp.bdy l).length) 0), (32, .int .i64 (((Sp.bdy l).length : Nat) : Int)), (33, .int .i64 ((0 : Nat) : Int))] [(1, ⟨[.int .u64 0, .int .u64 0, .int .u64 0, .int .u64 0, .int .u64 0, .int .u64 0, .int .u64 0], 27, true, 1⟩), (2, ⟨(lds 0), 27, true, 1⟩), (3, ⟨((Sp.bdy l).map u8v), 5, false, 1⟩)] ?_ (hc := (by simp [closedB, valsB, valB, List.all_eq_true, List.mem_map, boolv, u8v, lds, flat1]; try (intros; simp [valsB, valB, flat1]); try decide))
          refine al_ind (fun i : Nat × Int => (fun (i : Nat) (o : Int) => mkSt 0 [(0, .string (ByteArray.mk (l).toArray)), (2, .pointer (some ⟨1, 0, none⟩)), (3, .int .i64 0), (4, .string (ByteArray.mk (Sp.bdy l).toArray)), (5, .pointer (some ⟨2, 0, none⟩)), (31, .slice (some ⟨3, 0, none⟩) ((Sp.bdy l).length) 0), (32, .int .i64 (((Sp.bdy l).length : Nat) : Int)), (33, .int .i64 ((i : Nat) : Int))] [(1, ⟨[.int .u64 0, .int .u64 0, .int .u64 0, .int .u64 0, .int .u64 0, .int .u64 0, .int .u64 0], 27, true, 1⟩), (2, ⟨(lds o), 27, true, 1⟩), (3, ⟨((Sp.bdy l).map u8v), 5, false, 1⟩)]) i.1 i.2) (fun i : Nat × Int => (fun (i : Nat) (o : Int) => (i ≤ (Sp.bdy l).length) ∧ (o = (Sp.rdN ((Sp.bdy l).take i) : Int)) ∧ (((Sp.bdy l).take i).all Sp.dgB = true)) i.1 i.2) (fun i : Nat × Int => (fun (i : Nat) (o : Int) => (Sp.bdy l).length - i) i.1 i.2) (fun i hi2 ih2 => ?_) (0, 0) (show (0 ≤ (Sp.bdy l).length) ∧ (0 = (Sp.rdN ((Sp.bdy l).take 0) : Int)) ∧ (((Sp.bdy l).take 0).all Sp.dgB = true) from ⟨by omega, by (rw [List.take_zero]; rfl), by (rw [List.take_zero]; rfl)⟩)
          obtain ⟨i, o⟩ := i
          have hi2' : (i ≤ (Sp.bdy l).length) ∧ (o = (Sp.rdN ((Sp.bdy l).take i) : Int)) ∧ (((Sp.bdy l).take i).all Sp.dgB = true) := hi2
          obtain ⟨hi, ho, hal⟩ := hi2'
          show AL _ _ _ (mkSt 0 [(0, .string (ByteArray.mk (l).toArray)), (2, .pointer (some ⟨1, 0, none⟩)), (3, .int .i64 0), (4, .string (ByteArray.mk (Sp.bdy l).toArray)), (5, .pointer (some ⟨2, 0, none⟩)), (31, .slice (some ⟨3, 0, none⟩) ((Sp.bdy l).length) 0), (32, .int .i64 (((Sp.bdy l).length : Nat) : Int)), (33, .int .i64 ((i : Nat) : Int))] [(1, ⟨[.int .u64 0, .int .u64 0, .int .u64 0, .int .u64 0, .int .u64 0, .int .u64 0, .int .u64 0], 27, true, 1⟩), (2, ⟨(lds o), 27, true, 1⟩), (3, ⟨((Sp.bdy l).map u8v), 5, false, 1⟩)]) _
          have hob := Sp.rdN_bd (l := Sp.bdy l) (i := i) (by omega) hi hal
          refine al_round ?_
          refine aw_p 2031 (
            .a 1 4 <| .nil _ _) ?_
          refine aw_sq 4062 4063 ?_
          refine aw_cd 8124 8125 (decide (((i : Nat) : Int) < (((Sp.bdy l).length : Nat) : Int))) (fun h13 => ?_) (fun h13 => ?_)
          · have h13p : ((((i : Nat) : Int) < (((Sp.bdy l).length : Nat) : Int))) := by first | (simpa using h13) | (have h13q := h13; simp at h13q; omega) | (have h13q := bx1 h13; simp at h13q; omega)
            have hil : i < (Sp.bdy l).length := by omega
            refine aw_sk ?_
            refine then_normal ?_
            refine aw_sq 8126 8127 ?_
            refine aw_bl 1 16253 ?_
            refine aw_p 32507 (
              .p (does_indexSlice (t := 75) (x := .tmp 31) (y := .tmp 33) (k := 3) (off := 0) (n := ((Sp.bdy l).length)) (c := 0) (z := 1) (kd := .i64) (j := ((i : Nat) : Int)) (by kernel_rfl) (by kernel_rfl) (by kernel_rfl) (by kernel_rfl) (by kernel_rfl) (by omega) (by omega)) <|
              .p (does_load (t := 5) (x := .tmp 35) (k := 3) (off := (0 + (((i : Nat) : Int)).toNat * 1)) (b := ⟨((Sp.bdy l).map u8v), 5, false, 1⟩) (v := .int .u8 ((((Sp.bdy l).getD i 0).toNat : Nat) : Int)) (by kernel_rfl) (by kernel_rfl) (by kernel_rfl) (by rw [show (0 + (((i : Nat) : Int)).toNat * 1) = i from (by omega)]; exact ldV_map (f := u8v) (j := i) 0 (by kernel_rfl) (by kernel_rfl) (by omega))) <|
              .a 1 4 <| .nil _ _) ?_
            refine aw_sq 65014 65015 ?_
            rcases Bool.eq_false_or_eq_true (decide (((((Sp.bdy l).getD i 0).toNat : Nat) : Int) < 48)) with h14 | h14
            · have h14p : ((((((Sp.bdy l).getD i 0).toNat : Nat) : Int) < 48)) := by first | (simpa using h14) | (have h14q := h14; simp at h14q; omega) | (have h14q := bx1 h14; simp at h14q; omega)
              have hr := Sp.rd_bad h60 (Sp.bad_all (Sp.not_all hil (by omega)))
              refine aw_p 130029 (
                .a 1 4 <| .p (does_b true (h14)) <| .a 4 4 <| .nil _ _) ?_
              refine aw_tr 260058 ?_
              refine aw_p 520117 (
                .a 3 4 <| .nil _ _) ?_
              refine aw_rt ?_
              refine then_ret ?_
              refine block_ret ?_
              refine then_ret ?_
              refine then_ret ?_
              refine block_ret ?_
              refine then_ret ?_
              exact en_ret [.agg #[.int .u64 0, .int .u64 0, .int .u64 0, .int .u64 0, .int .u64 0, .int .u64 0, .int .u64 0], .int .i64 15] (show (.tuple #[.agg #[.int .u64 0, .int .u64 0, .int .u64 0, .int .u64 0, .int .u64 0, .int .u64 0, .int .u64 0], .int .i64 15] : Value) = (.tuple #[lval (Sp.rdV l), .int .i64 (Sp.rdE l)]) from (congrArg (fun z : List Value => Value.tuple z.toArray) (lcons (congrArg (fun z : List Value => Value.agg z.toArray) (lcons (congrArg (Value.int .u64) (show 0 = (Sp.dgt (Sp.rdV l) 0) from by (first | (rw [hr.2]; done) | (rw [hr.1]; done) | (rw [hr.1]; decide) | (rw [hr.1]; rfl)))) (lcons (congrArg (Value.int .u64) (show 0 = (Sp.dgt (Sp.rdV l) 1) from by (first | (rw [hr.2]; done) | (rw [hr.1]; done) | (rw [hr.1]; decide) | (rw [hr.1]; rfl)))) (lcons (congrArg (Value.int .u64) (show 0 = (Sp.dgt (Sp.rdV l) 2) from by (first | (rw [hr.2]; done) | (rw [hr.1]; done) | (rw [hr.1]; decide) | (rw [hr.1]; rfl)))) (lcons (congrArg (Value.int .u64) (show 0 = (Sp.dgt (Sp.rdV l) 3) from by (first | (rw [hr.2]; done) | (rw [hr.1]; done) | (rw [hr.1]; decide) | (rw [hr.1]; rfl)))) (lcons (congrArg (Value.int .u64) (show 0 = (Sp.dgt (Sp.rdV l) 4) from by (first | (rw [hr.2]; done) | (rw [hr.1]; done) | (rw [hr.1]; decide) | (rw [hr.1]; rfl)))) (lcons (congrArg (Value.int .u64) (show 0 = (Sp.dgt (Sp.rdV l) 5) from by (first | (rw [hr.2]; done) | (rw [hr.1]; done) | (rw [hr.1]; decide) | (rw [hr.1]; rfl)))) (lcons (congrArg (Value.int .u64) (show 0 = (Sp.dgt (Sp.rdV l) 6) from by (first | (rw [hr.2]; done) | (rw [hr.1]; done) | (rw [hr.1]; decide) | (rw [hr.1]; rfl)))) rfl)))))))) (lcons (congrArg (Value.int .i64) (show 15 = (Sp.rdE l) from by (first | (rw [hr.2]; done) | (rw [hr.1]; done) | (rw [hr.1]; decide) | (rw [hr.1]; rfl)))) rfl))))
            · have h14p : ¬ ((((((Sp.bdy l).getD i 0).toNat : Nat) : Int) < 48)) := by first | (simpa using h14) | (have h14q := h14; simp at h14q; omega) | (have h14q := bx2 h14; simp at h14q; omega)
              refine aw_p 130029 (
                .a 1 4 <| .p (does_b false (h14)) <| .a 4 4 <| .nil _ _) ?_
              refine aw_cd 260058 260059 (decide (((((Sp.bdy l).getD i 0).toNat : Nat) : Int) > 57)) (fun h15 => ?_) (fun h15 => ?_)
              · have h15p : ((((((Sp.bdy l).getD i 0).toNat : Nat) : Int) > 57)) := by first | (simpa using h15) | (have h15q := h15; simp at h15q; omega) | (have h15q := bx1 h15; simp at h15q; omega)
                have hr := Sp.rd_bad h60 (Sp.bad_all (Sp.not_all hil (by omega)))
                refine aw_p 520117 (
                  .a 3 4 <| .nil _ _) ?_
                refine aw_rt ?_
                refine then_ret ?_
                refine block_ret ?_
                refine then_ret ?_
                refine then_ret ?_
                refine block_ret ?_
                refine then_ret ?_
                exact en_ret [.agg #[.int .u64 0, .int .u64 0, .int .u64 0, .int .u64 0, .int .u64 0, .int .u64 0, .int .u64 0], .int .i64 15] (show (.tuple #[.agg #[.int .u64 0, .int .u64 0, .int .u64 0, .int .u64 0, .int .u64 0, .int .u64 0, .int .u64 0], .int .i64 15] : Value) = (.tuple #[lval (Sp.rdV l), .int .i64 (Sp.rdE l)]) from (congrArg (fun z : List Value => Value.tuple z.toArray) (lcons (congrArg (fun z : List Value => Value.agg z.toArray) (lcons (congrArg (Value.int .u64) (show 0 = (Sp.dgt (Sp.rdV l) 0) from by (first | (rw [hr.2]; done) | (rw [hr.1]; done) | (rw [hr.1]; decide) | (rw [hr.1]; rfl)))) (lcons (congrArg (Value.int .u64) (show 0 = (Sp.dgt (Sp.rdV l) 1) from by (first | (rw [hr.2]; done) | (rw [hr.1]; done) | (rw [hr.1]; decide) | (rw [hr.1]; rfl)))) (lcons (congrArg (Value.int .u64) (show 0 = (Sp.dgt (Sp.rdV l) 2) from by (first | (rw [hr.2]; done) | (rw [hr.1]; done) | (rw [hr.1]; decide) | (rw [hr.1]; rfl)))) (lcons (congrArg (Value.int .u64) (show 0 = (Sp.dgt (Sp.rdV l) 3) from by (first | (rw [hr.2]; done) | (rw [hr.1]; done) | (rw [hr.1]; decide) | (rw [hr.1]; rfl)))) (lcons (congrArg (Value.int .u64) (show 0 = (Sp.dgt (Sp.rdV l) 4) from by (first | (rw [hr.2]; done) | (rw [hr.1]; done) | (rw [hr.1]; decide) | (rw [hr.1]; rfl)))) (lcons (congrArg (Value.int .u64) (show 0 = (Sp.dgt (Sp.rdV l) 5) from by (first | (rw [hr.2]; done) | (rw [hr.1]; done) | (rw [hr.1]; decide) | (rw [hr.1]; rfl)))) (lcons (congrArg (Value.int .u64) (show 0 = (Sp.dgt (Sp.rdV l) 6) from by (first | (rw [hr.2]; done) | (rw [hr.1]; done) | (rw [hr.1]; decide) | (rw [hr.1]; rfl)))) rfl)))))))) (lcons (congrArg (Value.int .i64) (show 15 = (Sp.rdE l) from by (first | (rw [hr.2]; done) | (rw [hr.1]; done) | (rw [hr.1]; decide) | (rw [hr.1]; rfl)))) rfl))))
              · have h15p : ¬ ((((((Sp.bdy l).getD i 0).toNat : Nat) : Int) > 57)) := by first | (simpa using h15) | (have h15q := h15; simp at h15q; omega) | (have h15q := bx2 h15; simp at h15q; omega)
                refine aw_sk ?_
                refine then_normal ?_
                refine aw_d1 (
                  .a 1 4 <| .p (does_c (llof_ok 10 (by decide) (by decide))) <| .p (does_c (ltimes_ok o 10)) <| .a 1 4 <| .p (does_i ((((Sp.bdy l).getD i 0).toNat : Nat) : Int) (wrap_i64 (by omega) (by omega)) .i64) <|
                  .p (does_i (((((Sp.bdy l).getD i 0).toNat : Nat) : Int) - 48) (wrap_i64 (by omega) (by omega)) .i64) <| .p (does_c (llof_ok (((((Sp.bdy l).getD i 0).toNat : Nat) : Int) - 48) (by omega) (by omega))) <| .p (does_c (lplus_ok (o * 10) (((((Sp.bdy l).getD i 0).toNat : Nat) : Int) - 48))) <| .a 1 4 <| .nil _ _) ?_
                refine block_normal ?_
                refine then_normal ?_
                refine aw_p1 (
                  .p (does_i (((i : Nat) : Int) + 1) (wrap_i64 (by omega) (by omega)) .i64) <| .a 1 4 <| .nil _ _) ?_
                refine then_normal ?_
                refine al_w [(0, .string (ByteArray.mk (l).toArray)), (2, .pointer (some ⟨1, 0, none⟩)), (3, .int .i64 0), (4, .string (ByteArray.mk (Sp.bdy l).toArray)), (5, .pointer (some ⟨2, 0, none⟩)), (31, .slice (some ⟨3, 0, none⟩) ((Sp.bdy l).length) 0), (32, .int .i64 (((Sp.bdy l).length : Nat) : Int)), (33, .int .i64 (((i + 1) : Nat) : Int))] [(1, ⟨[.int .u64 0, .int .u64 0, .int .u64 0, .int .u64 0, .int .u64 0, .int .u64 0, .int .u64 0], 27, true, 1⟩), (2, ⟨(lds ((o * 10) + (((((Sp.bdy l).getD i 0).toNat : Nat) : Int) - 48))), 27, true, 1⟩), (3, ⟨((Sp.bdy l).map u8v), 5, false, 1⟩)] ?_ (hc := (by simp [closedB, valsB, valB, List.all_eq_true, List.mem_map, boolv, u8v, lds, flat1]; try (intros; simp [valsB, valB, flat1]); try decide))
                exact ih2 ((i + 1), ((o * 10) + (((((Sp.bdy l).getD i 0).toNat : Nat) : Int) - 48))) (show ((i + 1) ≤ (Sp.bdy l).length) ∧ (((o * 10) + (((((Sp.bdy l).getD i 0).toNat : Nat) : Int) - 48)) = (Sp.rdN ((Sp.bdy l).take (i + 1)) : Int)) ∧ (((Sp.bdy l).take (i + 1)).all Sp.dgB = true) from ⟨by omega, by (rw [ho]; exact (Sp.rd_next' hil (by omega)).symm), by exact Sp.all_snocD hil hal (by omega)⟩) (show (Sp.bdy l).length - (i + 1) < (Sp.bdy l).length - i from by omega)
          · have h13p : ¬ ((((i : Nat) : Int) < (((Sp.bdy l).length : Nat) : Int))) := by first | (simpa using h13) | (have h13q := h13; simp at h13q; omega) | (have h13q := bx2 h13; simp at h13q; omega)
            have hie : i = (Sp.bdy l).length := by omega
            have fB : (Sp.bdy l).all Sp.dgB = true := (by rw [hie, List.take_length] at hal; exact hal)
            have hb : Sp.badT l = false := (by rw [Sp.bad_n fB]; exact hbn)
            have hrd : o = (Sp.rdN (Sp.bdy l) : Int) := (by rw [ho, hie, List.take_length])
            refine aw_ex 0 ?_
            refine then_exit ?_
            refine then_exit ?_
            refine block_exit ?_
            refine then_normal ?_
            refine aw_sq 254 255 ?_
            refine aw_p 509 (
              .a 2 4 <| .p (does_bool (b' := (Sp.hp45 l)) (does_sne (t := 9) (t2 := 9) (x := .tmp 53) (y := .tmp 54) (Sp.bdy l) l (by kernel_rfl) (by kernel_rfl) (by kernel_rfl)) ((Sp.bdy_ne l))) <| .nil _ _) ?_
            refine aw_cd 1018 1019 (Sp.hp45 l) (fun h16 => ?_) (fun h16 => ?_)
            · have hp : Sp.hp45 l = true := h16
              have hv : -o = Sp.vlT l := (by unfold Sp.vlT; rw [hp, hrd]; rfl)
              refine aw_p1 (
                .a 1 4 <| .p (does_c (lneg_ok o)) <| .a 1 4 <| .nil _ _) ?_
              refine then_normal ?_
              refine aw_sq 510 511 ?_
              refine aw_p 1021 (
                .a 1 4 <| .p (does_c (lfits_ok (-o) (by omega) (by omega))) <| .a 1 4 <| .nil _ _) ?_
              refine aw_cd 2042 2043 (!(Sp.in128 (-o))) (fun h17 => ?_) (fun h17 => ?_)
              · have hr := Sp.rd_out h60 hb (by rw [← hv]; exact (by simpa using h17))
                refine aw_p 4085 (
                  .a 3 4 <| .nil _ _) ?_
                refine aw_rt ?_
                refine then_ret ?_
                exact en_ret [.agg #[.int .u64 0, .int .u64 0, .int .u64 0, .int .u64 0, .int .u64 0, .int .u64 0, .int .u64 0], .int .i64 2] (show (.tuple #[.agg #[.int .u64 0, .int .u64 0, .int .u64 0, .int .u64 0, .int .u64 0, .int .u64 0, .int .u64 0], .int .i64 2] : Value) = (.tuple #[lval (Sp.rdV l), .int .i64 (Sp.rdE l)]) from (congrArg (fun z : List Value => Value.tuple z.toArray) (lcons (congrArg (fun z : List Value => Value.agg z.toArray) (lcons (congrArg (Value.int .u64) (show 0 = (Sp.dgt (Sp.rdV l) 0) from by (first | (rw [hr.2]; done) | (rw [hr.1]; done) | (rw [hr.1]; decide) | (rw [hr.1]; rfl)))) (lcons (congrArg (Value.int .u64) (show 0 = (Sp.dgt (Sp.rdV l) 1) from by (first | (rw [hr.2]; done) | (rw [hr.1]; done) | (rw [hr.1]; decide) | (rw [hr.1]; rfl)))) (lcons (congrArg (Value.int .u64) (show 0 = (Sp.dgt (Sp.rdV l) 2) from by (first | (rw [hr.2]; done) | (rw [hr.1]; done) | (rw [hr.1]; decide) | (rw [hr.1]; rfl)))) (lcons (congrArg (Value.int .u64) (show 0 = (Sp.dgt (Sp.rdV l) 3) from by (first | (rw [hr.2]; done) | (rw [hr.1]; done) | (rw [hr.1]; decide) | (rw [hr.1]; rfl)))) (lcons (congrArg (Value.int .u64) (show 0 = (Sp.dgt (Sp.rdV l) 4) from by (first | (rw [hr.2]; done) | (rw [hr.1]; done) | (rw [hr.1]; decide) | (rw [hr.1]; rfl)))) (lcons (congrArg (Value.int .u64) (show 0 = (Sp.dgt (Sp.rdV l) 5) from by (first | (rw [hr.2]; done) | (rw [hr.1]; done) | (rw [hr.1]; decide) | (rw [hr.1]; rfl)))) (lcons (congrArg (Value.int .u64) (show 0 = (Sp.dgt (Sp.rdV l) 6) from by (first | (rw [hr.2]; done) | (rw [hr.1]; done) | (rw [hr.1]; decide) | (rw [hr.1]; rfl)))) rfl)))))))) (lcons (congrArg (Value.int .i64) (show 2 = (Sp.rdE l) from by (first | (rw [hr.2]; done) | (rw [hr.1]; done) | (rw [hr.1]; decide) | (rw [hr.1]; rfl)))) rfl))))
              · have hr := Sp.rd_in h60 hb (by rw [← hv]; exact (by simpa using h17))
                rw [← hv] at hr
                refine aw_sk ?_
                refine then_normal ?_
                refine aw_p 1023 (
                  .a 3 4 <| .nil _ _) ?_
                refine aw_rt ?_
                exact en_ret [lval (-o), .int .i64 0] (show (.tuple #[lval (-o), .int .i64 0] : Value) = (.tuple #[lval (Sp.rdV l), .int .i64 (Sp.rdE l)]) from (congrArg (fun z : List Value => Value.tuple z.toArray) (lcons (congrArg (fun z : List Value => Value.agg z.toArray) (lcons (congrArg (Value.int .u64) (show (Sp.dgt (-o) 0) = (Sp.dgt (Sp.rdV l) 0) from by (first | (rw [hr.2]; done) | (rw [hr.1]; done) | (rw [hr.1]; decide) | (rw [hr.1]; rfl)))) (lcons (congrArg (Value.int .u64) (show (Sp.dgt (-o) 1) = (Sp.dgt (Sp.rdV l) 1) from by (first | (rw [hr.2]; done) | (rw [hr.1]; done) | (rw [hr.1]; decide) | (rw [hr.1]; rfl)))) (lcons (congrArg (Value.int .u64) (show (Sp.dgt (-o) 2) = (Sp.dgt (Sp.rdV l) 2) from by (first | (rw [hr.2]; done) | (rw [hr.1]; done) | (rw [hr.1]; decide) | (rw [hr.1]; rfl)))) (lcons (congrArg (Value.int .u64) (show (Sp.dgt (-o) 3) = (Sp.dgt (Sp.rdV l) 3) from by (first | (rw [hr.2]; done) | (rw [hr.1]; done) | (rw [hr.1]; decide) | (rw [hr.1]; rfl)))) (lcons (congrArg (Value.int .u64) (show (Sp.dgt (-o) 4) = (Sp.dgt (Sp.rdV l) 4) from by (first | (rw [hr.2]; done) | (rw [hr.1]; done) | (rw [hr.1]; decide) | (rw [hr.1]; rfl)))) (lcons (congrArg (Value.int .u64) (show (Sp.dgt (-o) 5) = (Sp.dgt (Sp.rdV l) 5) from by (first | (rw [hr.2]; done) | (rw [hr.1]; done) | (rw [hr.1]; decide) | (rw [hr.1]; rfl)))) (lcons (congrArg (Value.int .u64) (show (Sp.dgt (-o) 6) = (Sp.dgt (Sp.rdV l) 6) from by (first | (rw [hr.2]; done) | (rw [hr.1]; done) | (rw [hr.1]; decide) | (rw [hr.1]; rfl)))) rfl)))))))) (lcons (congrArg (Value.int .i64) (show 0 = (Sp.rdE l) from by (first | (rw [hr.2]; done) | (rw [hr.1]; done) | (rw [hr.1]; decide) | (rw [hr.1]; rfl)))) rfl))))
            · have hp : Sp.hp45 l = false := h16
              have hv : o = Sp.vlT l := (by unfold Sp.vlT; rw [hp, hrd]; rfl)
              refine aw_sk ?_
              refine then_normal ?_
              refine aw_sq 510 511 ?_
              refine aw_p 1021 (
                .a 1 4 <| .p (does_c (lfits_ok o (by omega) (by omega))) <| .a 1 4 <| .nil _ _) ?_
              refine aw_cd 2042 2043 (!(Sp.in128 o)) (fun h18 => ?_) (fun h18 => ?_)
              · have hr := Sp.rd_out h60 hb (by rw [← hv]; exact (by simpa using h18))
                refine aw_p 4085 (
                  .a 3 4 <| .nil _ _) ?_
                refine aw_rt ?_
                refine then_ret ?_
                exact en_ret [.agg #[.int .u64 0, .int .u64 0, .int .u64 0, .int .u64 0, .int .u64 0, .int .u64 0, .int .u64 0], .int .i64 2] (show (.tuple #[.agg #[.int .u64 0, .int .u64 0, .int .u64 0, .int .u64 0, .int .u64 0, .int .u64 0, .int .u64 0], .int .i64 2] : Value) = (.tuple #[lval (Sp.rdV l), .int .i64 (Sp.rdE l)]) from (congrArg (fun z : List Value => Value.tuple z.toArray) (lcons (congrArg (fun z : List Value => Value.agg z.toArray) (lcons (congrArg (Value.int .u64) (show 0 = (Sp.dgt (Sp.rdV l) 0) from by (first | (rw [hr.2]; done) | (rw [hr.1]; done) | (rw [hr.1]; decide) | (rw [hr.1]; rfl)))) (lcons (congrArg (Value.int .u64) (show 0 = (Sp.dgt (Sp.rdV l) 1) from by (first | (rw [hr.2]; done) | (rw [hr.1]; done) | (rw [hr.1]; decide) | (rw [hr.1]; rfl)))) (lcons (congrArg (Value.int .u64) (show 0 = (Sp.dgt (Sp.rdV l) 2) from by (first | (rw [hr.2]; done) | (rw [hr.1]; done) | (rw [hr.1]; decide) | (rw [hr.1]; rfl)))) (lcons (congrArg (Value.int .u64) (show 0 = (Sp.dgt (Sp.rdV l) 3) from by (first | (rw [hr.2]; done) | (rw [hr.1]; done) | (rw [hr.1]; decide) | (rw [hr.1]; rfl)))) (lcons (congrArg (Value.int .u64) (show 0 = (Sp.dgt (Sp.rdV l) 4) from by (first | (rw [hr.2]; done) | (rw [hr.1]; done) | (rw [hr.1]; decide) | (rw [hr.1]; rfl)))) (lcons (congrArg (Value.int .u64) (show 0 = (Sp.dgt (Sp.rdV l) 5) from by (first | (rw [hr.2]; done) | (rw [hr.1]; done) | (rw [hr.1]; decide) | (rw [hr.1]; rfl)))) (lcons (congrArg (Value.int .u64) (show 0 = (Sp.dgt (Sp.rdV l) 6) from by (first | (rw [hr.2]; done) | (rw [hr.1]; done) | (rw [hr.1]; decide) | (rw [hr.1]; rfl)))) rfl)))))))) (lcons (congrArg (Value.int .i64) (show 2 = (Sp.rdE l) from by (first | (rw [hr.2]; done) | (rw [hr.1]; done) | (rw [hr.1]; decide) | (rw [hr.1]; rfl)))) rfl))))
              · have hr := Sp.rd_in h60 hb (by rw [← hv]; exact (by simpa using h18))
                rw [← hv] at hr
                refine aw_sk ?_
                refine then_normal ?_
                refine aw_p 1023 (
                  .a 3 4 <| .nil _ _) ?_
                refine aw_rt ?_
                exact en_ret [lval o, .int .i64 0] (show (.tuple #[lval o, .int .i64 0] : Value) = (.tuple #[lval (Sp.rdV l), .int .i64 (Sp.rdE l)]) from (congrArg (fun z : List Value => Value.tuple z.toArray) (lcons (congrArg (fun z : List Value => Value.agg z.toArray) (lcons (congrArg (Value.int .u64) (show (Sp.dgt o 0) = (Sp.dgt (Sp.rdV l) 0) from by (first | (rw [hr.2]; done) | (rw [hr.1]; done) | (rw [hr.1]; decide) | (rw [hr.1]; rfl)))) (lcons (congrArg (Value.int .u64) (show (Sp.dgt o 1) = (Sp.dgt (Sp.rdV l) 1) from by (first | (rw [hr.2]; done) | (rw [hr.1]; done) | (rw [hr.1]; decide) | (rw [hr.1]; rfl)))) (lcons (congrArg (Value.int .u64) (show (Sp.dgt o 2) = (Sp.dgt (Sp.rdV l) 2) from by (first | (rw [hr.2]; done) | (rw [hr.1]; done) | (rw [hr.1]; decide) | (rw [hr.1]; rfl)))) (lcons (congrArg (Value.int .u64) (show (Sp.dgt o 3) = (Sp.dgt (Sp.rdV l) 3) from by (first | (rw [hr.2]; done) | (rw [hr.1]; done) | (rw [hr.1]; decide) | (rw [hr.1]; rfl)))) (lcons (congrArg (Value.int .u64) (show (Sp.dgt o 4) = (Sp.dgt (Sp.rdV l) 4) from by (first | (rw [hr.2]; done) | (rw [hr.1]; done) | (rw [hr.1]; decide) | (rw [hr.1]; rfl)))) (lcons (congrArg (Value.int .u64) (show (Sp.dgt o 5) = (Sp.dgt (Sp.rdV l) 5) from by (first | (rw [hr.2]; done) | (rw [hr.1]; done) | (rw [hr.1]; decide) | (rw [hr.1]; rfl)))) (lcons (congrArg (Value.int .u64) (show (Sp.dgt o 6) = (Sp.dgt (Sp.rdV l) 6) from by (first | (rw [hr.2]; done) | (rw [hr.1]; done) | (rw [hr.1]; decide) | (rw [hr.1]; rfl)))) rfl)))))))) (lcons (congrArg (Value.int .i64) (show 0 = (Sp.rdE l) from by (first | (rw [hr.2]; done) | (rw [hr.1]; done) | (rw [hr.1]; decide) | (rw [hr.1]; rfl)))) rfl))))


end Go.Proofs.YtngmegnaohmapaaDoor.Am
