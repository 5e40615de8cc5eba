/-
  The walk of the reading of fractions.
-/
import Derived.Test.YtngmegnaohmapaaDoorProg
import Derived.Test.YtngmegnaohmapaaDoorAm16
import Derived.Test.YtngmegnaohmapaaDoorCu2
import Derived.Test.YtngmegnaohmapaaDoorFr2
namespace Go.Proofs.YtngmegnaohmapaaDoor.Am
open Go Go.Proofs
set_option maxRecDepth 100000
set_option maxHeartbeats 4000000
set_option linter.unusedVariables false
set_option linter.unusedSimpArgs false

theorem fread_ok (l : List UInt8) (hz : l.length ≤ 9223372036854775807) :
    AC Tryd.prog 9 0 ([.string (ByteArray.mk (l).toArray)]) [] (.tuple #[.agg #[.int .i64 (Sp.frN l), .int .i64 (Sp.frM l)], .int .i64 (Sp.frE l)]) [] := by
  have hct := Sp.ct1_len l; have hct2 := Sp.ct2_len l; have hb1 := Sp.ig_bd (Sp.ct1 l); have hb2 := Sp.ig_bd (Sp.ct2 l); have h1g := Sp.ig_one
  refine ac_in Tryd.func9 (fun w0 W pin => ?_)
  refine aw_p 3 (
    .a 2 1 <| .nil _ _) ?_
  refine aw_sq 6 7 ?_
  refine aw_p 13 (
    .a 1 2 <| .p (does_slen (x := .tmp 10) 9 l (by kernel_rfl) (by kernel_rfl) (by kernel_rfl) (by first | omega | (simp; done) | (simp; omega))) <| .a 1 2 <| .nil _ _) ?_
  refine aw_cd 26 27 (decide (((l.length : Nat) : Int) > 60)) (fun h1 => ?_) (fun h1 => ?_)
  · have h1p : ((((l.length : Nat) : Int) > 60)) := by first | (simpa using h1) | (have h1q := h1; simp at h1q; omega) | (have h1q := bx1 h1; simp at h1q; omega)
    have hr := Sp.fr_bad (Sp.fr_p1 (l := l) (by omega)) (by decide)
    refine aw_p 53 (
      .a 3 2 <| .nil _ _) ?_
    refine aw_rt ?_
    refine then_ret ?_
    exact en_ret [.agg #[.int .i64 0, .int .i64 0], .int .i64 2] (show (.tuple #[.agg #[.int .i64 0, .int .i64 0], .int .i64 2] : Value) = (.tuple #[.agg #[.int .i64 (Sp.frN l), .int .i64 (Sp.frM l)], .int .i64 (Sp.frE l)]) from (congrArg (fun z : List Value => Value.tuple z.toArray) (lcons (congrArg (fun z : List Value => Value.agg z.toArray) (lcons (congrArg (Value.int .i64) (show 0 = (Sp.frN l) from by (first | exact hr.1.symm | exact hr.2.1.symm | exact hr.2.2.symm | exact hr.1 | exact hr.2.1 | exact hr.2.2 | (rw [hr.1]; done) | (rw [hr.2.1]; done) | (rw [hr.2.2]; done)))) (lcons (congrArg (Value.int .i64) (show 0 = (Sp.frM l) from by (first | exact hr.1.symm | exact hr.2.1.symm | exact hr.2.2.symm | exact hr.1 | exact hr.2.1 | exact hr.2.2 | (rw [hr.1]; done) | (rw [hr.2.1]; done) | (rw [hr.2.2]; done)))) rfl))) (lcons (congrArg (Value.int .i64) (show 2 = (Sp.frE l) from by (first | exact hr.1.symm | exact hr.2.1.symm | exact hr.2.2.symm | exact hr.1 | exact hr.2.1 | exact hr.2.2 | (rw [hr.1]; done) | (rw [hr.2.1]; done) | (rw [hr.2.2]; done)))) rfl))))
  · have h1p : ¬ ((((l.length : Nat) : Int) > 60)) := by first | (simpa using h1) | (have h1q := h1; simp at h1q; omega) | (have h1q := bx2 h1; simp at h1q; omega)
    have h60 : ¬ 60 < l.length := by omega
    refine aw_sk ?_
    refine then_normal ?_
    refine aw_p 15 (
      .a 1 2 <| .p (does_c (cut_ok l (by first | omega | (simp; done) | (simp; omega)))) <| .a 7 2 <| .nil _ _) ?_
    refine aw_sq 30 31 ?_
    refine aw_p 61 (
      .a 2 2 <| .nil _ _) ?_
    refine aw_cd 122 123 (!(Sp.c47 l)) (fun h2 => ?_) (fun h2 => ?_)
    · have hc : Sp.c47 l = false := (by simpa using h2)
      have hD := Sp.frD_no hc
      refine aw_p1 (
        .a 1 2 <| .nil _ _) ?_
      refine then_normal ?_
      refine aw_p 63 (
        .a 1 2 <| .p (does_c (finteger_ok (Sp.ct1 l) (by first | omega | (simp; done) | (simp; omega)))) <| .a 5 2 <| .nil _ _) ?_
      refine aw_sq 126 127 ?_
      refine aw_p 253 (
        .a 2 2 <| .nil _ _) ?_
      refine aw_cd 506 507 ((Sp.igE (Sp.ct1 l)) != 0) (fun h3 => ?_) (fun h3 => ?_)
      · have h3p : (¬ ((Sp.igE (Sp.ct1 l)) = 0)) := by first | (simpa using h3) | (have h3q := h3; simp at h3q; omega) | (have h3q := bx1 h3; simp at h3q; omega)
        have ha : Sp.igE (Sp.ct1 l) ≠ 0 := (by simpa using h3)
        have hr := Sp.fr_bad (Sp.fr_p2 h60 ha) ha
        refine aw_p 1013 (
          .a 4 2 <| .nil _ _) ?_
        refine aw_rt ?_
        refine then_ret ?_
        exact en_ret [.agg #[.int .i64 0, .int .i64 0], .int .i64 (Sp.igE (Sp.ct1 l))] (show (.tuple #[.agg #[.int .i64 0, .int .i64 0], .int .i64 (Sp.igE (Sp.ct1 l))] : Value) = (.tuple #[.agg #[.int .i64 (Sp.frN l), .int .i64 (Sp.frM l)], .int .i64 (Sp.frE l)]) from (congrArg (fun z : List Value => Value.tuple z.toArray) (lcons (congrArg (fun z : List Value => Value.agg z.toArray) (lcons (congrArg (Value.int .i64) (show 0 = (Sp.frN l) from by (first | exact hr.1.symm | exact hr.2.1.symm | exact hr.2.2.symm | exact hr.1 | exact hr.2.1 | exact hr.2.2 | (rw [hr.1]; done) | (rw [hr.2.1]; done) | (rw [hr.2.2]; done)))) (lcons (congrArg (Value.int .i64) (show 0 = (Sp.frM l) from by (first | exact hr.1.symm | exact hr.2.1.symm | exact hr.2.2.symm | exact hr.1 | exact hr.2.1 | exact hr.2.2 | (rw [hr.1]; done) | (rw [hr.2.1]; done) | (rw [hr.2.2]; done)))) rfl))) (lcons (congrArg (Value.int .i64) (show (Sp.igE (Sp.ct1 l)) = (Sp.frE l) from by (first | exact hr.1.symm | exact hr.2.1.symm | exact hr.2.2.symm | exact hr.1 | exact hr.2.1 | exact hr.2.2 | (rw [hr.1]; done) | (rw [hr.2.1]; done) | (rw [hr.2.2]; done)))) rfl))))
      · have h3p : ¬ (¬ ((Sp.igE (Sp.ct1 l)) = 0)) := by first | (simpa using h3) | (have h3q := h3; simp at h3q; omega) | (have h3q := bx2 h3; simp at h3q; omega)
        have ha : Sp.igE (Sp.ct1 l) = 0 := (by simpa using h3)
        refine aw_sk ?_
        refine then_normal ?_
        refine aw_p 255 (
          .a 1 2 <| .p (does_c (finteger_ok ([49] : List UInt8) (by first | omega | (simp; done) | (simp; omega)))) <| .a 5 2 <| .nil _ _) ?_
        refine aw_sq 510 511 ?_
        refine aw_bl 0 1021 ?_
        refine aw_p 2043 (
          .a 3 2 <| .nil _ _) ?_
        refine aw_cd 4086 4087 ((Sp.igE ([49] : List UInt8)) != 0) (fun h4 => ?_) (fun h4 => ?_)
        · have h4p : (¬ ((Sp.igE ([49] : List UInt8)) = 0)) := by first | (simpa using h4) | (have h4q := h4; simp at h4q; omega) | (have h4q := bx1 h4; simp at h4q; omega)
          have hb := (show Sp.igE _ ≠ 0 from (by simpa using h4))
          have hr := Sp.fr_bad (Sp.fr_p3 h60 ha hD hb) hb
          refine aw_p 8173 (
            .a 4 2 <| .nil _ _) ?_
          refine aw_rt ?_
          refine block_ret ?_
          refine then_ret ?_
          exact en_ret [.agg #[.int .i64 0, .int .i64 0], .int .i64 (Sp.igE ([49] : List UInt8))] (show (.tuple #[.agg #[.int .i64 0, .int .i64 0], .int .i64 (Sp.igE ([49] : List UInt8))] : Value) = (.tuple #[.agg #[.int .i64 (Sp.frN l), .int .i64 (Sp.frM l)], .int .i64 (Sp.frE l)]) from (congrArg (fun z : List Value => Value.tuple z.toArray) (lcons (congrArg (fun z : List Value => Value.agg z.toArray) (lcons (congrArg (Value.int .i64) (show 0 = (Sp.frN l) from by (first | exact hr.1.symm | exact hr.2.1.symm | exact hr.2.2.symm | exact hr.1 | exact hr.2.1 | exact hr.2.2 | (rw [hr.1]; done) | (rw [hr.2.1]; done) | (rw [hr.2.2]; done)))) (lcons (congrArg (Value.int .i64) (show 0 = (Sp.frM l) from by (first | exact hr.1.symm | exact hr.2.1.symm | exact hr.2.2.symm | exact hr.1 | exact hr.2.1 | exact hr.2.2 | (rw [hr.1]; done) | (rw [hr.2.1]; done) | (rw [hr.2.2]; done)))) rfl))) (lcons (congrArg (Value.int .i64) (show (Sp.igE ([49] : List UInt8)) = (Sp.frE l) from by (first | exact hr.1.symm | exact hr.2.1.symm | exact hr.2.2.symm | exact hr.1 | exact hr.2.1 | exact hr.2.2 | (rw [hr.1]; done) | (rw [hr.2.1]; done) | (rw [hr.2.2]; done)))) rfl))))
        · have h4p : ¬ (¬ ((Sp.igE ([49] : List UInt8)) = 0)) := by first | (simpa using h4) | (have h4q := h4; simp at h4q; omega) | (have h4q := bx2 h4; simp at h4q; omega)
          have hb := (show Sp.igE _ = 0 from (by simpa using h4))
          refine aw_p 8175 (
            .a 3 2 <| .nil _ _) ?_
          refine aw_cd 16350 16351 (decide ((Sp.igV ([49] : List UInt8)) < 0)) (fun h5 => ?_) (fun h5 => ?_)
          · have h5p : (((Sp.igV ([49] : List UInt8)) < 0)) := by first | (simpa using h5) | (have h5q := h5; simp at h5q; omega) | (have h5q := bx1 h5; simp at h5q; omega)
            have hr := Sp.fr_bad (Sp.fr_p4 h60 ha hD hb (by omega)) (by decide)
            refine aw_p 32701 (
              .a 3 2 <| .nil _ _) ?_
            refine aw_rt ?_
            refine block_ret ?_
            refine then_ret ?_
            exact en_ret [.agg #[.int .i64 0, .int .i64 0], .int .i64 15] (show (.tuple #[.agg #[.int .i64 0, .int .i64 0], .int .i64 15] : Value) = (.tuple #[.agg #[.int .i64 (Sp.frN l), .int .i64 (Sp.frM l)], .int .i64 (Sp.frE l)]) from (congrArg (fun z : List Value => Value.tuple z.toArray) (lcons (congrArg (fun z : List Value => Value.agg z.toArray) (lcons (congrArg (Value.int .i64) (show 0 = (Sp.frN l) from by (first | exact hr.1.symm | exact hr.2.1.symm | exact hr.2.2.symm | exact hr.1 | exact hr.2.1 | exact hr.2.2 | (rw [hr.1]; done) | (rw [hr.2.1]; done) | (rw [hr.2.2]; done)))) (lcons (congrArg (Value.int .i64) (show 0 = (Sp.frM l) from by (first | exact hr.1.symm | exact hr.2.1.symm | exact hr.2.2.symm | exact hr.1 | exact hr.2.1 | exact hr.2.2 | (rw [hr.1]; done) | (rw [hr.2.1]; done) | (rw [hr.2.2]; done)))) rfl))) (lcons (congrArg (Value.int .i64) (show 15 = (Sp.frE l) from by (first | exact hr.1.symm | exact hr.2.1.symm | exact hr.2.2.symm | exact hr.1 | exact hr.2.1 | exact hr.2.2 | (rw [hr.1]; done) | (rw [hr.2.1]; done) | (rw [hr.2.2]; done)))) rfl))))
          · have h5p : ¬ (((Sp.igV ([49] : List UInt8)) < 0)) := by first | (simpa using h5) | (have h5q := h5; simp at h5q; omega) | (have h5q := bx2 h5; simp at h5q; omega)
            have hr := Sp.fr_ok (Sp.fr_p5 h60 ha hD hb (by omega)) rfl (congrArg Sp.igV hD)
            refine aw_sk ?_
            refine block_normal ?_
            refine then_normal ?_
            refine aw_p 1023 (
              .a 2 2 <| .p (does_c (fmake_ok (Sp.igV (Sp.ct1 l)) (Sp.igV ([49] : List UInt8)) (by omega) (by omega) (by decide +kernel) (by decide +kernel))) <| .a 4 2 <| .nil _ _) ?_
            refine aw_rt ?_
            exact en_ret [.agg #[.int .i64 (Sp.dvn ((Sp.igV (Sp.ct1 l) : Int) : Rat) ((Sp.igV ([49] : List UInt8) : Int) : Rat)), .int .i64 (Sp.dvd ((Sp.igV (Sp.ct1 l) : Int) : Rat) ((Sp.igV ([49] : List UInt8) : Int) : Rat))], .int .i64 (Sp.dve ((Sp.igV (Sp.ct1 l) : Int) : Rat) ((Sp.igV ([49] : List UInt8) : Int) : Rat))] (show (.tuple #[.agg #[.int .i64 (Sp.dvn ((Sp.igV (Sp.ct1 l) : Int) : Rat) ((Sp.igV ([49] : List UInt8) : Int) : Rat)), .int .i64 (Sp.dvd ((Sp.igV (Sp.ct1 l) : Int) : Rat) ((Sp.igV ([49] : List UInt8) : Int) : Rat))], .int .i64 (Sp.dve ((Sp.igV (Sp.ct1 l) : Int) : Rat) ((Sp.igV ([49] : List UInt8) : Int) : Rat))] : Value) = (.tuple #[.agg #[.int .i64 (Sp.frN l), .int .i64 (Sp.frM l)], .int .i64 (Sp.frE l)]) from (congrArg (fun z : List Value => Value.tuple z.toArray) (lcons (congrArg (fun z : List Value => Value.agg z.toArray) (lcons (congrArg (Value.int .i64) (show (Sp.dvn ((Sp.igV (Sp.ct1 l) : Int) : Rat) ((Sp.igV ([49] : List UInt8) : Int) : Rat)) = (Sp.frN l) from by (first | exact hr.1.symm | exact hr.2.1.symm | exact hr.2.2.symm | exact hr.1 | exact hr.2.1 | exact hr.2.2 | (rw [hr.1]; done) | (rw [hr.2.1]; done) | (rw [hr.2.2]; done)))) (lcons (congrArg (Value.int .i64) (show (Sp.dvd ((Sp.igV (Sp.ct1 l) : Int) : Rat) ((Sp.igV ([49] : List UInt8) : Int) : Rat)) = (Sp.frM l) from by (first | exact hr.1.symm | exact hr.2.1.symm | exact hr.2.2.symm | exact hr.1 | exact hr.2.1 | exact hr.2.2 | (rw [hr.1]; done) | (rw [hr.2.1]; done) | (rw [hr.2.2]; done)))) rfl))) (lcons (congrArg (Value.int .i64) (show (Sp.dve ((Sp.igV (Sp.ct1 l) : Int) : Rat) ((Sp.igV ([49] : List UInt8) : Int) : Rat)) = (Sp.frE l) from by (first | exact hr.1.symm | exact hr.2.1.symm | exact hr.2.2.symm | exact hr.1 | exact hr.2.1 | exact hr.2.2 | (rw [hr.1]; done) | (rw [hr.2.1]; done) | (rw [hr.2.2]; done)))) rfl))))
    · have hc : Sp.c47 l = true := (by simpa using h2)
      have hD := Sp.frD_yes hc
      refine aw_sk ?_
      refine then_normal ?_
      refine aw_p 63 (
        .a 1 2 <| .p (does_c (finteger_ok (Sp.ct1 l) (by first | omega | (simp; done) | (simp; omega)))) <| .a 5 2 <| .nil _ _) ?_
      refine aw_sq 126 127 ?_
      refine aw_p 253 (
        .a 2 2 <| .nil _ _) ?_
      refine aw_cd 506 507 ((Sp.igE (Sp.ct1 l)) != 0) (fun h6 => ?_) (fun h6 => ?_)
      · have h6p : (¬ ((Sp.igE (Sp.ct1 l)) = 0)) := by first | (simpa using h6) | (have h6q := h6; simp at h6q; omega) | (have h6q := bx1 h6; simp at h6q; omega)
        have ha : Sp.igE (Sp.ct1 l) ≠ 0 := (by simpa using h6)
        have hr := Sp.fr_bad (Sp.fr_p2 h60 ha) ha
        refine aw_p 1013 (
          .a 4 2 <| .nil _ _) ?_
        refine aw_rt ?_
        refine then_ret ?_
        exact en_ret [.agg #[.int .i64 0, .int .i64 0], .int .i64 (Sp.igE (Sp.ct1 l))] (show (.tuple #[.agg #[.int .i64 0, .int .i64 0], .int .i64 (Sp.igE (Sp.ct1 l))] : Value) = (.tuple #[.agg #[.int .i64 (Sp.frN l), .int .i64 (Sp.frM l)], .int .i64 (Sp.frE l)]) from (congrArg (fun z : List Value => Value.tuple z.toArray) (lcons (congrArg (fun z : List Value => Value.agg z.toArray) (lcons (congrArg (Value.int .i64) (show 0 = (Sp.frN l) from by (first | exact hr.1.symm | exact hr.2.1.symm | exact hr.2.2.symm | exact hr.1 | exact hr.2.1 | exact hr.2.2 | (rw [hr.1]; done) | (rw [hr.2.1]; done) | (rw [hr.2.2]; done)))) (lcons (congrArg (Value.int .i64) (show 0 = (Sp.frM l) from by (first | exact hr.1.symm | exact hr.2.1.symm | exact hr.2.2.symm | exact hr.1 | exact hr.2.1 | exact hr.2.2 | (rw [hr.1]; done) | (rw [hr.2.1]; done) | (rw [hr.2.2]; done)))) rfl))) (lcons (congrArg (Value.int .i64) (show (Sp.igE (Sp.ct1 l)) = (Sp.frE l) from by (first | exact hr.1.symm | exact hr.2.1.symm | exact hr.2.2.symm | exact hr.1 | exact hr.2.1 | exact hr.2.2 | (rw [hr.1]; done) | (rw [hr.2.1]; done) | (rw [hr.2.2]; done)))) rfl))))
      · have h6p : ¬ (¬ ((Sp.igE (Sp.ct1 l)) = 0)) := by first | (simpa using h6) | (have h6q := h6; simp at h6q; omega) | (have h6q := bx2 h6; simp at h6q; omega)
        have ha : Sp.igE (Sp.ct1 l) = 0 := (by simpa using h6)
        refine aw_sk ?_
        refine then_normal ?_
        refine aw_p 255 (
          .a 1 2 <| .p (does_c (finteger_ok (Sp.ct2 l) (by first | omega | (simp; done) | (simp; omega)))) <| .a 5 2 <| .nil _ _) ?_
        refine aw_sq 510 511 ?_
        refine aw_bl 0 1021 ?_
        refine aw_p 2043 (
          .a 3 2 <| .nil _ _) ?_
        refine aw_cd 4086 4087 ((Sp.igE (Sp.ct2 l)) != 0) (fun h7 => ?_) (fun h7 => ?_)
        · have h7p : (¬ ((Sp.igE (Sp.ct2 l)) = 0)) := by first | (simpa using h7) | (have h7q := h7; simp at h7q; omega) | (have h7q := bx1 h7; simp at h7q; omega)
          have hb := (show Sp.igE _ ≠ 0 from (by simpa using h7))
          have hr := Sp.fr_bad (Sp.fr_p3 h60 ha hD hb) hb
          refine aw_p 8173 (
            .a 4 2 <| .nil _ _) ?_
          refine aw_rt ?_
          refine block_ret ?_
          refine then_ret ?_
          exact en_ret [.agg #[.int .i64 0, .int .i64 0], .int .i64 (Sp.igE (Sp.ct2 l))] (show (.tuple #[.agg #[.int .i64 0, .int .i64 0], .int .i64 (Sp.igE (Sp.ct2 l))] : Value) = (.tuple #[.agg #[.int .i64 (Sp.frN l), .int .i64 (Sp.frM l)], .int .i64 (Sp.frE l)]) from (congrArg (fun z : List Value => Value.tuple z.toArray) (lcons (congrArg (fun z : List Value => Value.agg z.toArray) (lcons (congrArg (Value.int .i64) (show 0 = (Sp.frN l) from by (first | exact hr.1.symm | exact hr.2.1.symm | exact hr.2.2.symm | exact hr.1 | exact hr.2.1 | exact hr.2.2 | (rw [hr.1]; done) | (rw [hr.2.1]; done) | (rw [hr.2.2]; done)))) (lcons (congrArg (Value.int .i64) (show 0 = (Sp.frM l) from by (first | exact hr.1.symm | exact hr.2.1.symm | exact hr.2.2.symm | exact hr.1 | exact hr.2.1 | exact hr.2.2 | (rw [hr.1]; done) | (rw [hr.2.1]; done) | (rw [hr.2.2]; done)))) rfl))) (lcons (congrArg (Value.int .i64) (show (Sp.igE (Sp.ct2 l)) = (Sp.frE l) from by (first | exact hr.1.symm | exact hr.2.1.symm | exact hr.2.2.symm | exact hr.1 | exact hr.2.1 | exact hr.2.2 | (rw [hr.1]; done) | (rw [hr.2.1]; done) | (rw [hr.2.2]; done)))) rfl))))
        · have h7p : ¬ (¬ ((Sp.igE (Sp.ct2 l)) = 0)) := by first | (simpa using h7) | (have h7q := h7; simp at h7q; omega) | (have h7q := bx2 h7; simp at h7q; omega)
          have hb := (show Sp.igE _ = 0 from (by simpa using h7))
          refine aw_p 8175 (
            .a 3 2 <| .nil _ _) ?_
          refine aw_cd 16350 16351 (decide ((Sp.igV (Sp.ct2 l)) < 0)) (fun h8 => ?_) (fun h8 => ?_)
          · have h8p : (((Sp.igV (Sp.ct2 l)) < 0)) := by first | (simpa using h8) | (have h8q := h8; simp at h8q; omega) | (have h8q := bx1 h8; simp at h8q; omega)
            have hr := Sp.fr_bad (Sp.fr_p4 h60 ha hD hb (by omega)) (by decide)
            refine aw_p 32701 (
              .a 3 2 <| .nil _ _) ?_
            refine aw_rt ?_
            refine block_ret ?_
            refine then_ret ?_
            exact en_ret [.agg #[.int .i64 0, .int .i64 0], .int .i64 15] (show (.tuple #[.agg #[.int .i64 0, .int .i64 0], .int .i64 15] : Value) = (.tuple #[.agg #[.int .i64 (Sp.frN l), .int .i64 (Sp.frM l)], .int .i64 (Sp.frE l)]) from (congrArg (fun z : List Value => Value.tuple z.toArray) (lcons (congrArg (fun z : List Value => Value.agg z.toArray) (lcons (congrArg (Value.int .i64) (show 0 = (Sp.frN l) from by (first | exact hr.1.symm | exact hr.2.1.symm | exact hr.2.2.symm | exact hr.1 | exact hr.2.1 | exact hr.2.2 | (rw [hr.1]; done) | (rw [hr.2.1]; done) | (rw [hr.2.2]; done)))) (lcons (congrArg (Value.int .i64) (show 0 = (Sp.frM l) from by (first | exact hr.1.symm | exact hr.2.1.symm | exact hr.2.2.symm | exact hr.1 | exact hr.2.1 | exact hr.2.2 | (rw [hr.1]; done) | (rw [hr.2.1]; done) | (rw [hr.2.2]; done)))) rfl))) (lcons (congrArg (Value.int .i64) (show 15 = (Sp.frE l) from by (first | exact hr.1.symm | exact hr.2.1.symm | exact hr.2.2.symm | exact hr.1 | exact hr.2.1 | exact hr.2.2 | (rw [hr.1]; done) | (rw [hr.2.1]; done) | (rw [hr.2.2]; done)))) rfl))))
          · have h8p : ¬ (((Sp.igV (Sp.ct2 l)) < 0)) := by first | (simpa using h8) | (have h8q := h8; simp at h8q; omega) | (have h8q := bx2 h8; simp at h8q; omega)
            have hr := Sp.fr_ok (Sp.fr_p5 h60 ha hD hb (by omega)) rfl (congrArg Sp.igV hD)
            refine aw_sk ?_
            refine block_normal ?_
            refine then_normal ?_
            refine aw_p 1023 (
              .a 2 2 <| .p (does_c (fmake_ok (Sp.igV (Sp.ct1 l)) (Sp.igV (Sp.ct2 l)) (by omega) (by omega) (by omega) (by omega))) <| .a 4 2 <| .nil _ _) ?_
            refine aw_rt ?_
            exact en_ret [.agg #[.int .i64 (Sp.dvn ((Sp.igV (Sp.ct1 l) : Int) : Rat) ((Sp.igV (Sp.ct2 l) : Int) : Rat)), .int .i64 (Sp.dvd ((Sp.igV (Sp.ct1 l) : Int) : Rat) ((Sp.igV (Sp.ct2 l) : Int) : Rat))], .int .i64 (Sp.dve ((Sp.igV (Sp.ct1 l) : Int) : Rat) ((Sp.igV (Sp.ct2 l) : Int) : Rat))] (show (.tuple #[.agg #[.int .i64 (Sp.dvn ((Sp.igV (Sp.ct1 l) : Int) : Rat) ((Sp.igV (Sp.ct2 l) : Int) : Rat)), .int .i64 (Sp.dvd ((Sp.igV (Sp.ct1 l) : Int) : Rat) ((Sp.igV (Sp.ct2 l) : Int) : Rat))], .int .i64 (Sp.dve ((Sp.igV (Sp.ct1 l) : Int) : Rat) ((Sp.igV (Sp.ct2 l) : Int) : Rat))] : Value) = (.tuple #[.agg #[.int .i64 (Sp.frN l), .int .i64 (Sp.frM l)], .int .i64 (Sp.frE l)]) from (congrArg (fun z : List Value => Value.tuple z.toArray) (lcons (congrArg (fun z : List Value => Value.agg z.toArray) (lcons (congrArg (Value.int .i64) (show (Sp.dvn ((Sp.igV (Sp.ct1 l) : Int) : Rat) ((Sp.igV (Sp.ct2 l) : Int) : Rat)) = (Sp.frN l) from by (first | exact hr.1.symm | exact hr.2.1.symm | exact hr.2.2.symm | exact hr.1 | exact hr.2.1 | exact hr.2.2 | (rw [hr.1]; done) | (rw [hr.2.1]; done) | (rw [hr.2.2]; done)))) (lcons (congrArg (Value.int .i64) (show (Sp.dvd ((Sp.igV (Sp.ct1 l) : Int) : Rat) ((Sp.igV (Sp.ct2 l) : Int) : Rat)) = (Sp.frM l) from by (first | exact hr.1.symm | exact hr.2.1.symm | exact hr.2.2.symm | exact hr.1 | exact hr.2.1 | exact hr.2.2 | (rw [hr.1]; done) | (rw [hr.2.1]; done) | (rw [hr.2.2]; done)))) rfl))) (lcons (congrArg (Value.int .i64) (show (Sp.dve ((Sp.igV (Sp.ct1 l) : Int) : Rat) ((Sp.igV (Sp.ct2 l) : Int) : Rat)) = (Sp.frE l) from by (first | exact hr.1.symm | exact hr.2.1.symm | exact hr.2.2.symm | exact hr.1 | exact hr.2.1 | exact hr.2.2 | (rw [hr.1]; done) | (rw [hr.2.1]; done) | (rw [hr.2.2]; done)))) rfl))))


end Go.Proofs.YtngmegnaohmapaaDoor.Am
