/-
  The walks of the reading of fractions.
-/
import Derived.Test.YtngmegnaohmapaaDoorProg
import Derived.Test.YtngmegnaohmapaaDoorAm16
import Derived.Test.YtngmegnaohmapaaDoorCu1
namespace Go.Proofs.YtngmegnaohmapaaDoor.Am
open Go Go.Proofs
set_option maxRecDepth 100000
set_option maxHeartbeats 4000000
set_option linter.unusedVariables false
set_option linter.unusedSimpArgs false

theorem ixbyte_ok (l : List UInt8) (hz : l.length ≤ 9223372036854775807) :
    AC Tryd.prog 71 0 ([.string (ByteArray.mk (l).toArray), .int .u8 47]) [] (.int .i64 (Sp.ix47 l)) [] := by
  refine ac_in Tryd.func71 (fun w0 W pin => ?_)
  refine aw_p 3 (
    .a 1 1 <| .nil _ _) ?_
  refine aw_p 7 (
    .a 2 1 <| .p (does_x (run_ix47 l)) <| .a 1 1 <| .nil _ _) ?_
  refine aw_rt ?_
  exact en_ret [.int .i64 (Sp.ix47 l)] (by kernel_rfl)

theorem index_ok (l : List UInt8) (hz : l.length ≤ 9223372036854775807) :
    AC Tryd.prog 59 0 ([.string (ByteArray.mk (l).toArray), .string (ByteArray.mk #[47])]) [] (.int .i64 (Sp.ix47 l)) [] := by
  refine ac_in Tryd.func59 (fun w0 W pin => ?_)
  refine aw_p 3 (
    .a 1 1 <| .nil _ _) ?_
  refine aw_p 7 (
    .a 1 1 <| .p (does_pure (v := .int .i64 1) (by kernel_rfl) (fun w => by kernel_rfl) (by kernel_rfl)) <| .a 1 1 <| .nil _ _) ?_
  refine aw_sq 14 15 ?_
  refine aw_bl 0 29 ?_
  refine aw_p 59 (
    .a 5 1 <| .p (does_seq (t := 9) (t2 := 9) (x := .tmp 20) (y := .tmp 21) ([47] : List UInt8) l (by kernel_rfl) (by kernel_rfl) (by kernel_rfl)) <| .a 2 1 <| .nil _ _) ?_
  refine aw_cd 118 119 (([47] : List UInt8) == l) (fun h1 => ?_) (fun h1 => ?_)
  · have h1p : (([47] : List UInt8) = l) := by first | (simpa using h1) | (have h1q := h1; simp at h1q; omega) | (have h1q := bx1 h1; simp at h1q; omega)
    have hl7 : l = [47] := (by first | (simpa using h1) | (have q := h1; simp at q; first | exact q | exact q.symm))
    refine aw_p 237 (
      .a 1 1 <| .nil _ _) ?_
    refine aw_rt ?_
    refine block_ret ?_
    refine then_ret ?_
    exact en_ret [.int .i64 0] (show (.int .i64 0 : Value) = (.int .i64 (Sp.ix47 l)) from (congrArg (Value.int .i64) (show 0 = (Sp.ix47 l) from by (rw [hl7]; rfl))))
  · have h1p : ¬ (([47] : List UInt8) = l) := by first | (simpa using h1) | (have h1q := h1; simp at h1q; omega) | (have h1q := bx2 h1; simp at h1q; omega)
    refine aw_p 239 (
      .a 3 1 <| .nil _ _) ?_
    refine aw_tr 478 ?_
    refine aw_p 957 (
      .a 2 1 <| .p (does_val (v' := .int .u8 47) (does_ixs (s := (ByteArray.mk #[47])) (j := 0) (b := (47 : UInt8)) (by decide) (by kernel_rfl)) (by kernel_rfl)) <| .p (does_c (ixbyte_ok l (by first | omega | (simp; done) | (simp; omega)))) <| .a 1 1 <| .nil _ _) ?_
    refine aw_rt ?_
    refine block_ret ?_
    refine then_ret ?_
    exact en_ret [.int .i64 (Sp.ix47 l)] (by kernel_rfl)

theorem cut0_ok (l : List UInt8) (hz : l.length ≤ 9223372036854775807) :
    AC Tryd.prog 43 0 ([.string (ByteArray.mk (l).toArray), .string (ByteArray.mk #[47])]) [] (.tuple #[.string (ByteArray.mk (Sp.ct1 l).toArray), .string (ByteArray.mk (Sp.ct2 l).toArray), .bool (Sp.c47 l)]) [] := by
  have hct := Sp.ct1_len l; have hixb := Sp.ix_bd l
  refine ac_in Tryd.func43 (fun w0 W pin => ?_)
  refine aw_p 3 (
    .a 3 1 <| .nil _ _) ?_
  refine aw_sq 6 7 ?_
  refine aw_p 13 (
    .a 2 1 <| .p (does_c (index_ok l (by first | omega | (simp; done) | (simp; omega)))) <| .a 1 1 <| .nil _ _) ?_
  refine aw_p 27 (
    .a 2 1 <| .nil _ _) ?_
  refine aw_cd 54 55 (decide ((Sp.ix47 l) ≥ 0)) (fun h1 => ?_) (fun h1 => ?_)
  · have h1p : (((Sp.ix47 l) ≥ 0)) := by first | (simpa using h1) | (have h1q := h1; simp at h1q; omega) | (have h1q := bx1 h1; simp at h1q; omega)
    have hix := Sp.ix_yes (l := l) (by first | omega | (have q := h1; simp at q; omega))
    have hlt := Sp.c47_yes hix.1
    refine aw_w [(0, .string (ByteArray.mk (l).toArray)), (1, .string (ByteArray.mk #[47])), (4, .string (ByteArray.mk #[])), (5, .string (ByteArray.mk #[])), (6, .bool false), (7, .int .i64 (((Sp.ct1 l).length : Nat) : Int))] [] ?_ (by rw [hix.2]; kernel_rfl) (by rw [hix.2]; kernel_rfl)
    refine aw_d 109 (
      .a 2 1 <| .p (does_sto (t := 9) (x := .tmp 13) (y := .tmp 14) (k := .i64) (j := (((Sp.ct1 l).length : Nat) : Int)) l ((((Sp.ct1 l).length : Nat) : Int).toNat) (by kernel_rfl) (by kernel_rfl) (by kernel_rfl) (by kernel_rfl) (by omega) (by first | omega | (simp; done) | (simp; omega))) <| .a 3 1 <|
      .p (does_pure (v := .int .i64 1) (by kernel_rfl) (fun w => by kernel_rfl) (by kernel_rfl)) <|
      .p (does_i (((Sp.ct1 l).length + 1 : Nat) : Int) ((show (IntKind.wrap .i64 ((((Sp.ct1 l).length : Nat) : Int) + 1)) = (((Sp.ct1 l).length + 1 : Nat) : Int) from ((wrap_i64 (by omega) (by omega)).trans (by omega)))) .i64) <|
      .p (does_sfrom (t := 9) (x := .tmp 16) (y := .tmp 20) (k := .i64) (j := (((Sp.ct1 l).length + 1 : Nat) : Int)) l ((Sp.ct1 l).length + 1) (by kernel_rfl) (by kernel_rfl) (by kernel_rfl) (by kernel_rfl) (by omega) (by first | omega | (simp; done) | (simp; omega))) <| .a 3 1 <| .nil _ _) ?_
    refine aw_rt ?_
    refine then_ret ?_
    exact en_ret [.string (ByteArray.mk (l.take ((((Sp.ct1 l).length : Nat) : Int).toNat)).toArray), .string (ByteArray.mk (l.drop ((Sp.ct1 l).length + 1)).toArray), .bool true] (show (.tuple #[.string (ByteArray.mk (l.take ((((Sp.ct1 l).length : Nat) : Int).toNat)).toArray), .string (ByteArray.mk (l.drop ((Sp.ct1 l).length + 1)).toArray), .bool true] : Value) = (.tuple #[.string (ByteArray.mk (Sp.ct1 l).toArray), .string (ByteArray.mk (Sp.ct2 l).toArray), .bool (Sp.c47 l)]) from (congrArg (fun z : List Value => Value.tuple z.toArray) (lcons (congrArg (fun z : List UInt8 => Value.string (ByteArray.mk z.toArray)) (show (l.take ((((Sp.ct1 l).length : Nat) : Int).toNat)) = (Sp.ct1 l) from by (first | exact Sp.take_ct1 l | exact Sp.drop_ct2 l | exact hix.1.symm | exact hnn.1.symm | exact hnn.2.symm | exact hno.symm | exact (Sp.take_ct1 l).symm))) (lcons (congrArg (fun z : List UInt8 => Value.string (ByteArray.mk z.toArray)) (show (l.drop ((Sp.ct1 l).length + 1)) = (Sp.ct2 l) from by (first | exact Sp.take_ct1 l | exact Sp.drop_ct2 l | exact hix.1.symm | exact hnn.1.symm | exact hnn.2.symm | exact hno.symm | exact (Sp.take_ct1 l).symm))) (lcons (congrArg Value.bool (show true = (Sp.c47 l) from by (first | exact Sp.take_ct1 l | exact Sp.drop_ct2 l | exact hix.1.symm | exact hnn.1.symm | exact hnn.2.symm | exact hno.symm | exact (Sp.take_ct1 l).symm))) rfl)))))
  · have h1p : ¬ (((Sp.ix47 l) ≥ 0)) := by first | (simpa using h1) | (have h1q := h1; simp at h1q; omega) | (have h1q := bx2 h1; simp at h1q; omega)
    have hno := Sp.ix_no (l := l) (by first | omega | (have q := h1; simp at q; omega))
    have hnn := Sp.c47_no hno
    refine aw_sk ?_
    refine then_normal ?_
    refine aw_p 15 (
      .a 4 1 <| .nil _ _) ?_
    refine aw_rt ?_
    exact en_ret [.string (ByteArray.mk (l).toArray), .string (ByteArray.mk #[]), .bool false] (show (.tuple #[.string (ByteArray.mk (l).toArray), .string (ByteArray.mk #[]), .bool false] : Value) = (.tuple #[.string (ByteArray.mk (Sp.ct1 l).toArray), .string (ByteArray.mk (Sp.ct2 l).toArray), .bool (Sp.c47 l)]) from (congrArg (fun z : List Value => Value.tuple z.toArray) (lcons (congrArg (fun z : List UInt8 => Value.string (ByteArray.mk z.toArray)) (show l = (Sp.ct1 l) from by (first | exact Sp.take_ct1 l | exact Sp.drop_ct2 l | exact hix.1.symm | exact hnn.1.symm | exact hnn.2.symm | exact hno.symm | exact (Sp.take_ct1 l).symm))) (lcons (congrArg (fun z : List UInt8 => Value.string (ByteArray.mk z.toArray)) (show ([] : List UInt8) = (Sp.ct2 l) from by (first | exact Sp.take_ct1 l | exact Sp.drop_ct2 l | exact hix.1.symm | exact hnn.1.symm | exact hnn.2.symm | exact hno.symm | exact (Sp.take_ct1 l).symm))) (lcons (congrArg Value.bool (show false = (Sp.c47 l) from by (first | exact Sp.take_ct1 l | exact Sp.drop_ct2 l | exact hix.1.symm | exact hnn.1.symm | exact hnn.2.symm | exact hno.symm | exact (Sp.take_ct1 l).symm))) rfl)))))

theorem cut_ok (l : List UInt8) (hz : l.length ≤ 9223372036854775807) :
    AC Tryd.prog 26 0 ([.string (ByteArray.mk (l).toArray), .string (ByteArray.mk #[47])]) [] (.tuple #[.string (ByteArray.mk (Sp.ct1 l).toArray), .string (ByteArray.mk (Sp.ct2 l).toArray), .bool (Sp.c47 l)]) [] := by
  have hct := Sp.ct1_len l; have hixb := Sp.ix_bd l
  refine ac_in Tryd.func26 (fun w0 W pin => ?_)
  refine aw_p 3 (
    .a 3 1 <| .nil _ _) ?_
  refine aw_p 7 (
    .a 2 1 <| .p (does_c (cut0_ok l (by first | omega | (simp; done) | (simp; omega)))) <| .a 6 1 <| .nil _ _) ?_
  refine aw_rt ?_
  exact en_ret [.string (ByteArray.mk (Sp.ct1 l).toArray), .string (ByteArray.mk (Sp.ct2 l).toArray), .bool (Sp.c47 l)] (by kernel_rfl)

theorem finteger_ok (l : List UInt8) (hz : l.length ≤ 9223372036854775807) :
    AC Tryd.prog 27 0 ([.string (ByteArray.mk (l).toArray)]) [] (.tuple #[.int .i64 (Sp.igV l), .int .i64 (Sp.igE l)]) [] := by
  have hrb := Sp.rdV_bd l
  refine ac_in Tryd.func27 (fun w0 W pin => ?_)
  refine aw_p 3 (
    .a 2 1 <| .nil _ _) ?_
  refine aw_p 7 (
    .a 1 1 <| .p (does_c (rread_ok l (by first | omega | (simp; done) | (simp; omega)))) <| .a 6 1 <| .nil _ _) ?_
  refine aw_sq 14 15 ?_
  refine aw_p 29 (
    .a 2 2 <| .nil _ _) ?_
  refine aw_cd 58 59 ((Sp.rdE l) != 0) (fun h1 => ?_) (fun h1 => ?_)
  · have h1p : (¬ ((Sp.rdE l) = 0)) := by first | (simpa using h1) | (have h1q := h1; simp at h1q; omega) | (have h1q := bx1 h1; simp at h1q; omega)
    have hig := Sp.ig_bad (l := l) (by simpa using h1)
    refine aw_p 117 (
      .a 3 2 <| .nil _ _) ?_
    refine aw_rt ?_
    refine then_ret ?_
    exact en_ret [.int .i64 0, .int .i64 (Sp.rdE l)] (show (.tuple #[.int .i64 0, .int .i64 (Sp.rdE l)] : Value) = (.tuple #[.int .i64 (Sp.igV l), .int .i64 (Sp.igE l)]) from (congrArg (fun z : List Value => Value.tuple z.toArray) (lcons (congrArg (Value.int .i64) (show 0 = (Sp.igV l) from by (first | exact hig.1.symm | exact hig.2.symm))) (lcons (congrArg (Value.int .i64) (show (Sp.rdE l) = (Sp.igE l) from by (first | exact hig.1.symm | exact hig.2.symm))) rfl))))
  · have h1p : ¬ (¬ ((Sp.rdE l) = 0)) := by first | (simpa using h1) | (have h1q := h1; simp at h1q; omega) | (have h1q := bx2 h1; simp at h1q; omega)
    have hig := Sp.ig_ok (l := l) (by simpa using h1)
    refine aw_sk ?_
    refine then_normal ?_
    refine aw_p 31 (
      .a 1 2 <| .p (does_c (wshort_ok (Sp.rdV l) (by omega) (by omega))) <| .a 4 2 <| .nil _ _) ?_
    refine aw_rt ?_
    exact en_ret [.int .i64 (Sp.shN (Sp.rdV l)), .int .i64 (Sp.shE (Sp.rdV l))] (show (.tuple #[.int .i64 (Sp.shN (Sp.rdV l)), .int .i64 (Sp.shE (Sp.rdV l))] : Value) = (.tuple #[.int .i64 (Sp.igV l), .int .i64 (Sp.igE l)]) from (congrArg (fun z : List Value => Value.tuple z.toArray) (lcons (congrArg (Value.int .i64) (show (Sp.shN (Sp.rdV l)) = (Sp.igV l) from by (first | exact hig.1.symm | exact hig.2.symm))) (lcons (congrArg (Value.int .i64) (show (Sp.shE (Sp.rdV l)) = (Sp.igE l) from by (first | exact hig.1.symm | exact hig.2.symm))) rfl))))


end Go.Proofs.YtngmegnaohmapaaDoor.Am
