/-
  The walks of the reading of numbers.
-/
import Derived.Test.YtngmegnaohmapaaDoorProg
import Derived.Test.YtngmegnaohmapaaDoorAm16
import Derived.Test.YtngmegnaohmapaaDoorNu1
import Derived.Test.YtngmegnaohmapaaDoorWd4
namespace Go.Proofs.YtngmegnaohmapaaDoor.Am
open Go Go.Proofs
set_option maxRecDepth 100000
set_option maxHeartbeats 4000000
set_option linter.unusedVariables false
set_option linter.unusedSimpArgs false

theorem rread_ok (l : List UInt8) (hz : l.length ≤ 9223372036854775807) :
    AC Tryd.prog 44 0 ([.string (ByteArray.mk (l).toArray)]) [] (.tuple #[.agg #[.int .i64 (Sp.wh (Sp.rdV l)), .int .u64 (Sp.wl (Sp.rdV l))], .int .i64 (Sp.rdE l)]) [] := by
  refine ac_in Tryd.func44 (fun w0 W pin => ?_)
  refine aw_p 3 (
    .a 2 1 <| .nil _ _) ?_
  refine aw_sq 6 7 ?_
  refine aw_p 13 (
    .a 1 2 <| .p (does_slen (x := .tmp 12) 9 l (by kernel_rfl) (by kernel_rfl) (by kernel_rfl) (by first | omega | (simp; done) | (simp; omega))) <| .a 1 2 <| .nil _ _) ?_
  refine aw_cd 26 27 (decide (((l.length : Nat) : Int) > 60)) (fun h1 => ?_) (fun h1 => ?_)
  · have h1p : ((((l.length : Nat) : Int) > 60)) := by first | (simpa using h1) | (have h1q := h1; simp at h1q; omega) | (have h1q := bx1 h1; simp at h1q; omega)
    have hr := Sp.rd_large (l := l) (by omega)
    have hbl := Sp.bdy_len l
    refine aw_p 53 (
      .a 3 2 <| .nil _ _) ?_
    refine aw_rt ?_
    refine then_ret ?_
    exact en_ret [.agg #[.int .i64 0, .int .u64 0], .int .i64 2] (show (.tuple #[.agg #[.int .i64 0, .int .u64 0], .int .i64 2] : Value) = (.tuple #[.agg #[.int .i64 (Sp.wh (Sp.rdV l)), .int .u64 (Sp.wl (Sp.rdV l))], .int .i64 (Sp.rdE l)]) from (congrArg (fun z : List Value => Value.tuple z.toArray) (lcons (congrArg (fun z : List Value => Value.agg z.toArray) (lcons (congrArg (Value.int .i64) (show 0 = (Sp.wh (Sp.rdV l)) from by (first | (rw [hr.2]; done) | (rw [hr.1]; done) | (rw [hr.1]; decide) | (rw [hr.1]; rfl)))) (lcons (congrArg (Value.int .u64) (show 0 = (Sp.wl (Sp.rdV l)) from by (first | (rw [hr.2]; done) | (rw [hr.1]; done) | (rw [hr.1]; decide) | (rw [hr.1]; rfl)))) rfl))) (lcons (congrArg (Value.int .i64) (show 2 = (Sp.rdE l) from by (first | (rw [hr.2]; done) | (rw [hr.1]; done) | (rw [hr.1]; decide) | (rw [hr.1]; rfl)))) rfl))))
  · have h1p : ¬ ((((l.length : Nat) : Int) > 60)) := by first | (simpa using h1) | (have h1q := h1; simp at h1q; omega) | (have h1q := bx2 h1; simp at h1q; omega)
    have h60 : ¬ 60 < l.length := by omega
    have hbl := Sp.bdy_len l
    refine aw_sk ?_
    refine then_normal ?_
    refine aw_p 15 (
      .a 1 2 <| .p (does_c (cutprefix_ok l (by first | omega | (simp; done) | (simp; omega)))) <| .a 5 2 <| .nil _ _) ?_
    refine aw_sq 30 31 ?_
    rcases Bool.eq_false_or_eq_true (((Sp.bdy l) == ([] : List UInt8))) with h2 | h2
    · have h2p : ((Sp.bdy l) = ([] : List UInt8)) := by first | (simpa using h2) | (have h2q := h2; simp at h2q; omega) | (have h2q := bx1 h2; simp at h2q; omega)
      have fA : (Sp.bdy l == []) = true := h2
      have hr := Sp.rd_bad h60 (by unfold Sp.badT; rw [fA]; rfl)
      refine aw_p 61 (
        .a 1 2 <| .p (does_bool (b' := true) (does_seq (t := 9) (t2 := 9) (x := .tmp 21) (y := .const (.string (ByteArray.mk #[]))) (Sp.bdy l) ([] : List UInt8) (by kernel_rfl) (by kernel_rfl) (by kernel_rfl)) (h2)) <| .a 14 2 <| .nil _ _) ?_
      refine aw_tr 122 ?_
      refine aw_p 245 (
        .a 3 2 <| .nil _ _) ?_
      refine aw_rt ?_
      refine then_ret ?_
      exact en_ret [.agg #[.int .i64 0, .int .u64 0], .int .i64 15] (show (.tuple #[.agg #[.int .i64 0, .int .u64 0], .int .i64 15] : Value) = (.tuple #[.agg #[.int .i64 (Sp.wh (Sp.rdV l)), .int .u64 (Sp.wl (Sp.rdV l))], .int .i64 (Sp.rdE l)]) from (congrArg (fun z : List Value => Value.tuple z.toArray) (lcons (congrArg (fun z : List Value => Value.agg z.toArray) (lcons (congrArg (Value.int .i64) (show 0 = (Sp.wh (Sp.rdV l)) from by (first | (rw [hr.2]; done) | (rw [hr.1]; done) | (rw [hr.1]; decide) | (rw [hr.1]; rfl)))) (lcons (congrArg (Value.int .u64) (show 0 = (Sp.wl (Sp.rdV l)) from by (first | (rw [hr.2]; done) | (rw [hr.1]; done) | (rw [hr.1]; decide) | (rw [hr.1]; rfl)))) rfl))) (lcons (congrArg (Value.int .i64) (show 15 = (Sp.rdE l) from by (first | (rw [hr.2]; done) | (rw [hr.1]; done) | (rw [hr.1]; decide) | (rw [hr.1]; rfl)))) rfl))))
    · have h2p : ¬ ((Sp.bdy l) = ([] : List UInt8)) := by first | (simpa using h2) | (have h2q := h2; simp at h2q; omega) | (have h2q := bx2 h2; simp at h2q; omega)
      have fA : (Sp.bdy l == []) = false := h2
      have hlen : 0 < (Sp.bdy l).length := List.length_pos_iff.2 (by simpa using fA)
      rcases Bool.eq_false_or_eq_true (!((Sp.bdy l).all Sp.dgB)) with h3 | h3
      · have fB : (Sp.bdy l).all Sp.dgB = false := (by simpa using h3)
        have hr := Sp.rd_bad h60 (Sp.bad_all fB)
        refine aw_p 61 (
          .a 1 2 <| .p (does_bool (b' := false) (does_seq (t := 9) (t2 := 9) (x := .tmp 21) (y := .const (.string (ByteArray.mk #[]))) (Sp.bdy l) ([] : List UInt8) (by kernel_rfl) (by kernel_rfl) (by kernel_rfl)) (h2)) <| .a 2 2 <|
          .p (does_c (trim_ok (Sp.bdy l) (by first | omega | (simp; done) | (simp; omega)))) <|
          .p (does_bool (b' := true) (does_bool (b' := (!((Sp.bdy l).all Sp.dgB))) (does_sne (t := 9) (t2 := 9) (x := .tmp 25) (y := .const (.string (ByteArray.mk #[]))) (Sp.trL (Sp.trR (Sp.bdy l))) ([] : List UInt8) (by kernel_rfl) (by kernel_rfl) (by kernel_rfl)) ((show (!((Sp.trL (Sp.trR (Sp.bdy l))) == ([] : List UInt8))) = (!((Sp.bdy l).all Sp.dgB)) from (by rw [Sp.tr_nil])))) (h3)) <|
          .a 10 2 <| .nil _ _) ?_
        refine aw_tr 122 ?_
        refine aw_p 245 (
          .a 3 2 <| .nil _ _) ?_
        refine aw_rt ?_
        refine then_ret ?_
        exact en_ret [.agg #[.int .i64 0, .int .u64 0], .int .i64 15] (show (.tuple #[.agg #[.int .i64 0, .int .u64 0], .int .i64 15] : Value) = (.tuple #[.agg #[.int .i64 (Sp.wh (Sp.rdV l)), .int .u64 (Sp.wl (Sp.rdV l))], .int .i64 (Sp.rdE l)]) from (congrArg (fun z : List Value => Value.tuple z.toArray) (lcons (congrArg (fun z : List Value => Value.agg z.toArray) (lcons (congrArg (Value.int .i64) (show 0 = (Sp.wh (Sp.rdV l)) from by (first | (rw [hr.2]; done) | (rw [hr.1]; done) | (rw [hr.1]; decide) | (rw [hr.1]; rfl)))) (lcons (congrArg (Value.int .u64) (show 0 = (Sp.wl (Sp.rdV l)) from by (first | (rw [hr.2]; done) | (rw [hr.1]; done) | (rw [hr.1]; decide) | (rw [hr.1]; rfl)))) rfl))) (lcons (congrArg (Value.int .i64) (show 15 = (Sp.rdE l) from by (first | (rw [hr.2]; done) | (rw [hr.1]; done) | (rw [hr.1]; decide) | (rw [hr.1]; rfl)))) rfl))))
      · have fB : (Sp.bdy l).all Sp.dgB = true := (by simpa using h3)
        rcases Bool.eq_false_or_eq_true (((((Sp.bdy l).getD (0) 0).toNat : Nat) : Int) == 48) with h4 | h4
        · have h4p : ((((((Sp.bdy l).getD (0) 0).toNat : Nat) : Int) = 48)) := by first | (simpa using h4) | (have h4q := h4; simp at h4q; omega) | (have h4q := bx1 h4; simp at h4q; omega)
          have fC : ((((Sp.bdy l).getD 0 0).toNat : Int) == 48) = true := h4
          refine aw_p 61 (
            .a 1 2 <| .p (does_bool (b' := false) (does_seq (t := 9) (t2 := 9) (x := .tmp 21) (y := .const (.string (ByteArray.mk #[]))) (Sp.bdy l) ([] : List UInt8) (by kernel_rfl) (by kernel_rfl) (by kernel_rfl)) (h2)) <| .a 2 2 <|
            .p (does_c (trim_ok (Sp.bdy l) (by first | omega | (simp; done) | (simp; omega)))) <|
            .p (does_bool (b' := false) (does_bool (b' := (!((Sp.bdy l).all Sp.dgB))) (does_sne (t := 9) (t2 := 9) (x := .tmp 25) (y := .const (.string (ByteArray.mk #[]))) (Sp.trL (Sp.trR (Sp.bdy l))) ([] : List UInt8) (by kernel_rfl) (by kernel_rfl) (by kernel_rfl)) ((show (!((Sp.trL (Sp.trR (Sp.bdy l))) == ([] : List UInt8))) = (!((Sp.bdy l).all Sp.dgB)) from (by rw [Sp.tr_nil])))) (h3)) <|
            .a 3 2 <| .p (does_six (t := 9) (x := .tmp 29) (y := .const (.int .i64 0)) (k := .i64) (j := 0) (Sp.bdy l) (0) (by kernel_rfl) (by kernel_rfl) (by kernel_rfl) (by kernel_rfl) (by omega) (by first | omega | (simp; done) | (simp; omega))) <| .p (does_b true (h4)) <| .a 2 2 <|
            .p (does_sne (t := 9) (t2 := 9) (x := .tmp 33) (y := .const (.string (ByteArray.mk #[48]))) l ([48] : List UInt8) (by kernel_rfl) (by kernel_rfl) (by kernel_rfl)) <| .a 2 2 <| .nil _ _) ?_
          refine aw_cd 122 123 (!(l == ([48] : List UInt8))) (fun h5 => ?_) (fun h5 => ?_)
          · have h5p : (¬ (l = ([48] : List UInt8))) := by first | (simpa using h5) | (have h5q := h5; simp at h5q; omega) | (have h5q := bx3 h5; simp at h5q; omega)
            have fD : (l == [48]) = false := (by simpa using h5)
            have hr := Sp.rd_bad h60 (by unfold Sp.badT; rw [fA, fB, fC, fD]; rfl)
            refine aw_p 245 (
              .a 3 2 <| .nil _ _) ?_
            refine aw_rt ?_
            refine then_ret ?_
            exact en_ret [.agg #[.int .i64 0, .int .u64 0], .int .i64 15] (show (.tuple #[.agg #[.int .i64 0, .int .u64 0], .int .i64 15] : Value) = (.tuple #[.agg #[.int .i64 (Sp.wh (Sp.rdV l)), .int .u64 (Sp.wl (Sp.rdV l))], .int .i64 (Sp.rdE l)]) from (congrArg (fun z : List Value => Value.tuple z.toArray) (lcons (congrArg (fun z : List Value => Value.agg z.toArray) (lcons (congrArg (Value.int .i64) (show 0 = (Sp.wh (Sp.rdV l)) from by (first | (rw [hr.2]; done) | (rw [hr.1]; done) | (rw [hr.1]; decide) | (rw [hr.1]; rfl)))) (lcons (congrArg (Value.int .u64) (show 0 = (Sp.wl (Sp.rdV l)) from by (first | (rw [hr.2]; done) | (rw [hr.1]; done) | (rw [hr.1]; decide) | (rw [hr.1]; rfl)))) rfl))) (lcons (congrArg (Value.int .i64) (show 15 = (Sp.rdE l) from by (first | (rw [hr.2]; done) | (rw [hr.1]; done) | (rw [hr.1]; decide) | (rw [hr.1]; rfl)))) rfl))))
          · have h5p : ¬ (¬ (l = ([48] : List UInt8))) := by first | (simpa using h5) | (have h5q := h5; simp at h5q; omega) | (have h5q := bx4 h5; simp at h5q; omega)
            have fD : (l == [48]) = true := (by simpa using h5)
            have hb : Sp.badT l = false := (by unfold Sp.badT; rw [fA, fB, fC, fD]; rfl)
            refine aw_sk ?_
            refine then_normal ?_
            refine aw_p 63 (
              .a 1 2 <| .nil _ _) ?_
            refine aw_sq 126 127 ?_
            refine aw_p 253 (
              .a 1 3 <| .p (does_slen (x := .tmp 38) 9 (Sp.bdy l) (by kernel_rfl) (by kernel_rfl) (by kernel_rfl) (by first | omega | (simp; done) | (simp; omega))) <| .a 1 3 <| .nil _ _) ?_
            refine aw_bl 0 507 ?_
            refine aw_lp 1015 ?_
            refine al_w [(2, .pointer (some ⟨1, 0, none⟩)), (3, .int .i64 0), (4, .string (ByteArray.mk (Sp.bdy l).toArray)), (5, .bool (Sp.hp45 l)), (6, .pointer (some ⟨2, 0, none⟩)), (39, .int .i64 (((Sp.bdy l).length : Nat) : Int)), (40, .int .i64 ((0 : Nat) : Int))] [(1, ⟨[.int .i64 0, .int .u64 0], 68, true, 2⟩), (2, ⟨[.int .i64 (Sp.wh 0), .int .u64 (Sp.wl 0)], 68, true, 2⟩)] ?_
            refine al_ind (fun i : Nat × Int => (fun (i : Nat) (o : Int) => mkSt 0 [(2, .pointer (some ⟨1, 0, none⟩)), (3, .int .i64 0), (4, .string (ByteArray.mk (Sp.bdy l).toArray)), (5, .bool (Sp.hp45 l)), (6, .pointer (some ⟨2, 0, none⟩)), (39, .int .i64 (((Sp.bdy l).length : Nat) : Int)), (40, .int .i64 ((i : Nat) : Int))] [(1, ⟨[.int .i64 0, .int .u64 0], 68, true, 2⟩), (2, ⟨[.int .i64 (Sp.wh o), .int .u64 (Sp.wl o)], 68, true, 2⟩)]) i.1 i.2) (fun i : Nat × Int => (fun (i : Nat) (o : Int) => (i ≤ (Sp.bdy l).length) ∧ (o = Sp.pv l i) ∧ (-170141183460469231731687303715884105728 ≤ o ∧ o < 170141183460469231731687303715884105728)) i.1 i.2) (fun i : Nat × Int => (fun (i : Nat) (o : Int) => (Sp.bdy l).length - i) i.1 i.2) (fun i hi1 ih1 => ?_) (0, 0) (show (0 ≤ (Sp.bdy l).length) ∧ (0 = Sp.pv l 0) ∧ (-170141183460469231731687303715884105728 ≤ 0 ∧ 0 < 170141183460469231731687303715884105728) from ⟨by omega, by (exact (Sp.pv_zero l).symm), by omega⟩)
            obtain ⟨i, o⟩ := i
            have hi1' : (i ≤ (Sp.bdy l).length) ∧ (o = Sp.pv l i) ∧ (-170141183460469231731687303715884105728 ≤ o ∧ o < 170141183460469231731687303715884105728) := hi1
            obtain ⟨hi, ho, hob⟩ := hi1'
            show AL _ _ _ (mkSt 0 [(2, .pointer (some ⟨1, 0, none⟩)), (3, .int .i64 0), (4, .string (ByteArray.mk (Sp.bdy l).toArray)), (5, .bool (Sp.hp45 l)), (6, .pointer (some ⟨2, 0, none⟩)), (39, .int .i64 (((Sp.bdy l).length : Nat) : Int)), (40, .int .i64 ((i : Nat) : Int))] [(1, ⟨[.int .i64 0, .int .u64 0], 68, true, 2⟩), (2, ⟨[.int .i64 (Sp.wh o), .int .u64 (Sp.wl o)], 68, true, 2⟩)]) _
            refine al_round ?_
            refine aw_p 2031 (
              .a 1 3 <| .nil _ _) ?_
            refine aw_sq 4062 4063 ?_
            refine aw_cd 8124 8125 (decide (((i : Nat) : Int) < (((Sp.bdy l).length : Nat) : Int))) (fun h6 => ?_) (fun h6 => ?_)
            · have h6p : ((((i : Nat) : Int) < (((Sp.bdy l).length : Nat) : Int))) := by first | (simpa using h6) | (have h6q := h6; simp at h6q; omega) | (have h6q := bx1 h6; simp at h6q; omega)
              have hil : i < (Sp.bdy l).length := by omega
              have hdg := Sp.all_get fB hil
              have hdv := Sp.dv_bd fB hil
              refine aw_sk ?_
              refine then_normal ?_
              refine aw_sq 8126 8127 ?_
              refine aw_bl 1 16253 ?_
              refine aw_p 32507 (
                .a 2 3 <| .nil _ _) ?_
              refine aw_p 65015 (
                .a 2 3 <| .p (does_six (t := 9) (x := .tmp 43) (y := .tmp 44) (k := .i64) (j := ((i : Nat) : Int)) (Sp.bdy l) i (by kernel_rfl) (by kernel_rfl) (by kernel_rfl) (by kernel_rfl) (by omega) (by first | omega | (simp; done) | (simp; omega))) <|
                .p (does_i (Sp.dv l i) ((show (IntKind.wrap .u8 (((((Sp.bdy l).getD i 0).toNat : Nat) : Int) - 48)) = (Sp.dv l i) from ((wrap_u8 (by omega) (by omega)).trans rfl))) .u8) <| .p (does_i (Sp.dv l i) (wrap_i64 (by omega) (by omega)) .i64) <| .a 1 3 <| .nil _ _) ?_
              refine aw_sq 130030 130031 ?_
              refine aw_p 260061 (
                .a 1 3 <| .nil _ _) ?_
              refine aw_cd 520122 520123 (Sp.hp45 l) (fun h7 => ?_) (fun h7 => ?_)
              · have hp : Sp.hp45 l = true := h7
                have hnx := Sp.pv_neg fB hil hp
                refine aw_p1 (
                  .a 1 3 <| .p (does_i (0 - (Sp.dv l i)) (wrap_i64 (by omega) (by omega)) .i64) <| .a 1 3 <| .nil _ _) ?_
                refine then_normal ?_
                rcases Bool.eq_false_or_eq_true (Sp.in128 (o * 10)) with h8 | h8
                · have hin : Sp.in128 (o * 10) = true := h8
                  refine aw_p 260063 (
                    .a 1 3 <| .p (does_c (wtimes_in o 10 (by omega) (by omega) (by decide) (by decide) h8)) <| .a 6 3 <| .nil _ _) ?_
                  refine aw_sq 520126 520127 ?_
                  refine aw_p 1040253 (
                    .a 2 4 <| .nil _ _) ?_
                  refine aw_fl 2080507 ?_
                  refine aw_sk ?_
                  refine then_normal ?_
                  refine aw_d 1040255 (
                    .a 2 4 <| .p (does_c (wof_ok (0 - (Sp.dv l i)) (by omega) (by omega))) <| .p (does_c (wadd_ok (o * 10) (0 - (Sp.dv l i)))) <| .a 2 4 <| .nil _ _) ?_
                  refine aw_sq 2080510 2080511 ?_
                  rcases Bool.eq_false_or_eq_true (decide ((0 - (Sp.dv l i)) < 0)) with h9 | h9
                  · have h9p : (((0 - (Sp.dv l i)) < 0)) := by first | (simpa using h9) | (have h9q := h9; simp at h9q; omega) | (have h9q := bx1 h9; simp at h9q; omega)
                    rcases Bool.eq_false_or_eq_true (!(Sp.in128 ((o * 10) + (0 - (Sp.dv l i))))) with h10 | h10
                    · have hin2 : Sp.in128 ((o * 10) + (0 - (Sp.dv l i))) = false := (by simpa using h10)
                      have hr := Sp.rd_out h60 hb (Sp.pv_out2 fB (show i + 1 ≤ _ by omega) (by rw [hnx.1, ← ho]; exact hin2))
                      refine aw_p 4161021 (
                        .a 1 5 <| .p (does_b false ((show (decide ((0 - (Sp.dv l i)) > 0)) = false from decide_eq_false (by omega)))) <| .a 9 5 <| .p (does_b true (h9)) <| .a 5 5 <|
                        .p (does_b true (((show (decide ((Sp.wh ((o * 10) + (0 - (Sp.dv l i)))) > (Sp.wh (o * 10)))) = (!(Sp.in128 ((o * 10) + (0 - (Sp.dv l i))))) from Sp.nx_neg hin (by omega) (by omega))).trans (h10))) <| .a 4 5 <|
                        .p (does_b true ((show (decide ((Sp.wh (o * 10)) < 0)) = true from decide_eq_true (Sp.nx_low hin (by omega) (by omega) hin2)))) <| .a 2 5 <| .nil _ _) ?_
                      refine aw_tr 8322042 ?_
                      refine aw_p 16644085 (
                        .a 3 5 <| .nil _ _) ?_
                      refine aw_rt ?_
                      refine then_ret ?_
                      refine block_ret ?_
                      refine then_ret ?_
                      refine then_ret ?_
                      refine block_ret ?_
                      refine then_ret ?_
                      exact en_ret [.agg #[.int .i64 0, .int .u64 0], .int .i64 2] (show (.tuple #[.agg #[.int .i64 0, .int .u64 0], .int .i64 2] : Value) = (.tuple #[.agg #[.int .i64 (Sp.wh (Sp.rdV l)), .int .u64 (Sp.wl (Sp.rdV l))], .int .i64 (Sp.rdE l)]) from (congrArg (fun z : List Value => Value.tuple z.toArray) (lcons (congrArg (fun z : List Value => Value.agg z.toArray) (lcons (congrArg (Value.int .i64) (show 0 = (Sp.wh (Sp.rdV l)) from by (first | (rw [hr.2]; done) | (rw [hr.1]; done) | (rw [hr.1]; decide) | (rw [hr.1]; rfl)))) (lcons (congrArg (Value.int .u64) (show 0 = (Sp.wl (Sp.rdV l)) from by (first | (rw [hr.2]; done) | (rw [hr.1]; done) | (rw [hr.1]; decide) | (rw [hr.1]; rfl)))) rfl))) (lcons (congrArg (Value.int .i64) (show 2 = (Sp.rdE l) from by (first | (rw [hr.2]; done) | (rw [hr.1]; done) | (rw [hr.1]; decide) | (rw [hr.1]; rfl)))) rfl))))
                    · have hin2 : Sp.in128 ((o * 10) + (0 - (Sp.dv l i))) = true := (by simpa using h10)
                      refine aw_p 4161021 (
                        .a 1 5 <| .p (does_b false ((show (decide ((0 - (Sp.dv l i)) > 0)) = false from decide_eq_false (by omega)))) <| .a 9 5 <| .p (does_b true (h9)) <| .a 5 5 <|
                        .p (does_b false (((show (decide ((Sp.wh ((o * 10) + (0 - (Sp.dv l i)))) > (Sp.wh (o * 10)))) = (!(Sp.in128 ((o * 10) + (0 - (Sp.dv l i))))) from Sp.nx_neg hin (by omega) (by omega))).trans (h10))) <| .a 7 5 <| .nil _ _) ?_
                      refine aw_fl 8322043 ?_
                      refine aw_sk ?_
                      refine then_normal ?_
                      refine aw_p1 (
                        .a 2 5 <| .nil _ _) ?_
                      refine block_normal ?_
                      refine then_normal ?_
                      refine aw_p1 (
                        .p (does_i (((i : Nat) : Int) + 1) (wrap_i64 (by omega) (by omega)) .i64) <| .a 1 5 <| .nil _ _) ?_
                      refine then_normal ?_
                      refine al_w [(2, .pointer (some ⟨1, 0, none⟩)), (3, .int .i64 0), (4, .string (ByteArray.mk (Sp.bdy l).toArray)), (5, .bool (Sp.hp45 l)), (6, .pointer (some ⟨2, 0, none⟩)), (39, .int .i64 (((Sp.bdy l).length : Nat) : Int)), (40, .int .i64 (((i + 1) : Nat) : Int))] [(1, ⟨[.int .i64 0, .int .u64 0], 68, true, 2⟩), (2, ⟨[.int .i64 (Sp.wh ((o * 10) + (0 - (Sp.dv l i)))), .int .u64 (Sp.wl ((o * 10) + (0 - (Sp.dv l i))))], 68, true, 2⟩)] ?_
                      exact ih1 ((i + 1), ((o * 10) + (0 - (Sp.dv l i)))) (show ((i + 1) ≤ (Sp.bdy l).length) ∧ (((o * 10) + (0 - (Sp.dv l i))) = Sp.pv l (i + 1)) ∧ (-170141183460469231731687303715884105728 ≤ ((o * 10) + (0 - (Sp.dv l i))) ∧ ((o * 10) + (0 - (Sp.dv l i))) < 170141183460469231731687303715884105728) from ⟨by omega, by (rw [hnx.1, ← ho]), by (first | (have q := (Sp.in128_iff _).1 hin2; omega) | (have q := (Sp.in128_iff _).1 hin; omega))⟩) (show (Sp.bdy l).length - (i + 1) < (Sp.bdy l).length - i from by omega)
                  · have h9p : ¬ (((0 - (Sp.dv l i)) < 0)) := by first | (simpa using h9) | (have h9q := h9; simp at h9q; omega) | (have h9q := bx2 h9; simp at h9q; omega)
                    refine aw_p 4161021 (
                      .a 1 5 <| .p (does_b false ((show (decide ((0 - (Sp.dv l i)) > 0)) = false from decide_eq_false (by omega)))) <| .a 9 5 <| .p (does_b false (h9)) <| .a 13 5 <| .nil _ _) ?_
                    refine aw_fl 8322043 ?_
                    refine aw_sk ?_
                    refine then_normal ?_
                    refine aw_p1 (
                      .a 2 5 <| .nil _ _) ?_
                    refine block_normal ?_
                    refine then_normal ?_
                    refine aw_p1 (
                      .p (does_i (((i : Nat) : Int) + 1) (wrap_i64 (by omega) (by omega)) .i64) <| .a 1 5 <| .nil _ _) ?_
                    refine then_normal ?_
                    refine al_w [(2, .pointer (some ⟨1, 0, none⟩)), (3, .int .i64 0), (4, .string (ByteArray.mk (Sp.bdy l).toArray)), (5, .bool (Sp.hp45 l)), (6, .pointer (some ⟨2, 0, none⟩)), (39, .int .i64 (((Sp.bdy l).length : Nat) : Int)), (40, .int .i64 (((i + 1) : Nat) : Int))] [(1, ⟨[.int .i64 0, .int .u64 0], 68, true, 2⟩), (2, ⟨[.int .i64 (Sp.wh ((o * 10) + (0 - (Sp.dv l i)))), .int .u64 (Sp.wl ((o * 10) + (0 - (Sp.dv l i))))], 68, true, 2⟩)] ?_
                    exact ih1 ((i + 1), ((o * 10) + (0 - (Sp.dv l i)))) (show ((i + 1) ≤ (Sp.bdy l).length) ∧ (((o * 10) + (0 - (Sp.dv l i))) = Sp.pv l (i + 1)) ∧ (-170141183460469231731687303715884105728 ≤ ((o * 10) + (0 - (Sp.dv l i))) ∧ ((o * 10) + (0 - (Sp.dv l i))) < 170141183460469231731687303715884105728) from ⟨by omega, by (rw [hnx.1, ← ho]), by (first | (have q := (Sp.in128_iff _).1 hin2; omega) | (have q := (Sp.in128_iff _).1 hin; omega))⟩) (show (Sp.bdy l).length - (i + 1) < (Sp.bdy l).length - i from by omega)
                · have hin : Sp.in128 (o * 10) = false := h8
                  have hr := Sp.rd_out h60 hb (Sp.pv_out1 fB hil (by rw [← ho]; exact hin))
                  refine aw_p 260063 (
                    .a 1 3 <| .p (does_c (wtimes_out o 10 (by omega) (by omega) (by decide) (by decide) h8)) <| .a 6 3 <| .nil _ _) ?_
                  refine aw_sq 520126 520127 ?_
                  refine aw_p 1040253 (
                    .a 2 4 <| .nil _ _) ?_
                  refine aw_tr 2080506 ?_
                  refine aw_p 4161013 (
                    .a 4 4 <| .nil _ _) ?_
                  refine aw_rt ?_
                  refine then_ret ?_
                  refine block_ret ?_
                  refine then_ret ?_
                  refine then_ret ?_
                  refine block_ret ?_
                  refine then_ret ?_
                  exact en_ret [.agg #[.int .i64 0, .int .u64 0], .int .i64 2] (show (.tuple #[.agg #[.int .i64 0, .int .u64 0], .int .i64 2] : Value) = (.tuple #[.agg #[.int .i64 (Sp.wh (Sp.rdV l)), .int .u64 (Sp.wl (Sp.rdV l))], .int .i64 (Sp.rdE l)]) from (congrArg (fun z : List Value => Value.tuple z.toArray) (lcons (congrArg (fun z : List Value => Value.agg z.toArray) (lcons (congrArg (Value.int .i64) (show 0 = (Sp.wh (Sp.rdV l)) from by (first | (rw [hr.2]; done) | (rw [hr.1]; done) | (rw [hr.1]; decide) | (rw [hr.1]; rfl)))) (lcons (congrArg (Value.int .u64) (show 0 = (Sp.wl (Sp.rdV l)) from by (first | (rw [hr.2]; done) | (rw [hr.1]; done) | (rw [hr.1]; decide) | (rw [hr.1]; rfl)))) rfl))) (lcons (congrArg (Value.int .i64) (show 2 = (Sp.rdE l) from by (first | (rw [hr.2]; done) | (rw [hr.1]; done) | (rw [hr.1]; decide) | (rw [hr.1]; rfl)))) rfl))))
              · have hp : Sp.hp45 l = false := h7
                have hnx := Sp.pv_pos fB hil hp
                refine aw_sk ?_
                refine then_normal ?_
                rcases Bool.eq_false_or_eq_true (Sp.in128 (o * 10)) with h11 | h11
                · have hin : Sp.in128 (o * 10) = true := h11
                  refine aw_p 260063 (
                    .a 1 3 <| .p (does_c (wtimes_in o 10 (by omega) (by omega) (by decide) (by decide) h11)) <| .a 6 3 <| .nil _ _) ?_
                  refine aw_sq 520126 520127 ?_
                  refine aw_p 1040253 (
                    .a 2 4 <| .nil _ _) ?_
                  refine aw_fl 2080507 ?_
                  refine aw_sk ?_
                  refine then_normal ?_
                  refine aw_d 1040255 (
                    .a 2 4 <| .p (does_c (wof_ok (Sp.dv l i) (by omega) (by omega))) <| .p (does_c (wadd_ok (o * 10) (Sp.dv l i))) <| .a 2 4 <| .nil _ _) ?_
                  refine aw_sq 2080510 2080511 ?_
                  rcases Bool.eq_false_or_eq_true (decide ((Sp.dv l i) > 0)) with h12 | h12
                  · have h12p : (((Sp.dv l i) > 0)) := by first | (simpa using h12) | (have h12q := h12; simp at h12q; omega) | (have h12q := bx1 h12; simp at h12q; omega)
                    rcases Bool.eq_false_or_eq_true (!(Sp.in128 ((o * 10) + (Sp.dv l i)))) with h13 | h13
                    · have hin2 : Sp.in128 ((o * 10) + (Sp.dv l i)) = false := (by simpa using h13)
                      have hr := Sp.rd_out h60 hb (Sp.pv_out2 fB (show i + 1 ≤ _ by omega) (by rw [hnx.1, ← ho]; exact hin2))
                      refine aw_p 4161021 (
                        .a 1 5 <| .p (does_b true (h12)) <| .a 5 5 <| .p (does_b true (((show (decide ((Sp.wh ((o * 10) + (Sp.dv l i))) < (Sp.wh (o * 10)))) = (!(Sp.in128 ((o * 10) + (Sp.dv l i)))) from Sp.nx_pos hin (by omega) (by omega))).trans (h13))) <| .a 17 5 <| .nil _ _) ?_
                      refine aw_tr 8322042 ?_
                      refine aw_p 16644085 (
                        .a 3 5 <| .nil _ _) ?_
                      refine aw_rt ?_
                      refine then_ret ?_
                      refine block_ret ?_
                      refine then_ret ?_
                      refine then_ret ?_
                      refine block_ret ?_
                      refine then_ret ?_
                      exact en_ret [.agg #[.int .i64 0, .int .u64 0], .int .i64 2] (show (.tuple #[.agg #[.int .i64 0, .int .u64 0], .int .i64 2] : Value) = (.tuple #[.agg #[.int .i64 (Sp.wh (Sp.rdV l)), .int .u64 (Sp.wl (Sp.rdV l))], .int .i64 (Sp.rdE l)]) from (congrArg (fun z : List Value => Value.tuple z.toArray) (lcons (congrArg (fun z : List Value => Value.agg z.toArray) (lcons (congrArg (Value.int .i64) (show 0 = (Sp.wh (Sp.rdV l)) from by (first | (rw [hr.2]; done) | (rw [hr.1]; done) | (rw [hr.1]; decide) | (rw [hr.1]; rfl)))) (lcons (congrArg (Value.int .u64) (show 0 = (Sp.wl (Sp.rdV l)) from by (first | (rw [hr.2]; done) | (rw [hr.1]; done) | (rw [hr.1]; decide) | (rw [hr.1]; rfl)))) rfl))) (lcons (congrArg (Value.int .i64) (show 2 = (Sp.rdE l) from by (first | (rw [hr.2]; done) | (rw [hr.1]; done) | (rw [hr.1]; decide) | (rw [hr.1]; rfl)))) rfl))))
                    · have hin2 : Sp.in128 ((o * 10) + (Sp.dv l i)) = true := (by simpa using h13)
                      refine aw_p 4161021 (
                        .a 1 5 <| .p (does_b true (h12)) <| .a 5 5 <| .p (does_b false (((show (decide ((Sp.wh ((o * 10) + (Sp.dv l i))) < (Sp.wh (o * 10)))) = (!(Sp.in128 ((o * 10) + (Sp.dv l i)))) from Sp.nx_pos hin (by omega) (by omega))).trans (h13))) <| .a 3 5 <|
                        .p (does_b false ((show (decide ((Sp.dv l i) < 0)) = false from decide_eq_false (by omega)))) <| .a 13 5 <| .nil _ _) ?_
                      refine aw_fl 8322043 ?_
                      refine aw_sk ?_
                      refine then_normal ?_
                      refine aw_p1 (
                        .a 2 5 <| .nil _ _) ?_
                      refine block_normal ?_
                      refine then_normal ?_
                      refine aw_p1 (
                        .p (does_i (((i : Nat) : Int) + 1) (wrap_i64 (by omega) (by omega)) .i64) <| .a 1 5 <| .nil _ _) ?_
                      refine then_normal ?_
                      refine al_w [(2, .pointer (some ⟨1, 0, none⟩)), (3, .int .i64 0), (4, .string (ByteArray.mk (Sp.bdy l).toArray)), (5, .bool (Sp.hp45 l)), (6, .pointer (some ⟨2, 0, none⟩)), (39, .int .i64 (((Sp.bdy l).length : Nat) : Int)), (40, .int .i64 (((i + 1) : Nat) : Int))] [(1, ⟨[.int .i64 0, .int .u64 0], 68, true, 2⟩), (2, ⟨[.int .i64 (Sp.wh ((o * 10) + (Sp.dv l i))), .int .u64 (Sp.wl ((o * 10) + (Sp.dv l i)))], 68, true, 2⟩)] ?_
                      exact ih1 ((i + 1), ((o * 10) + (Sp.dv l i))) (show ((i + 1) ≤ (Sp.bdy l).length) ∧ (((o * 10) + (Sp.dv l i)) = Sp.pv l (i + 1)) ∧ (-170141183460469231731687303715884105728 ≤ ((o * 10) + (Sp.dv l i)) ∧ ((o * 10) + (Sp.dv l i)) < 170141183460469231731687303715884105728) from ⟨by omega, by (rw [hnx.1, ← ho]), by (first | (have q := (Sp.in128_iff _).1 hin2; omega) | (have q := (Sp.in128_iff _).1 hin; omega))⟩) (show (Sp.bdy l).length - (i + 1) < (Sp.bdy l).length - i from by omega)
                  · have h12p : ¬ (((Sp.dv l i) > 0)) := by first | (simpa using h12) | (have h12q := h12; simp at h12q; omega) | (have h12q := bx2 h12; simp at h12q; omega)
                    refine aw_p 4161021 (
                      .a 1 5 <| .p (does_b false (h12)) <| .a 9 5 <| .p (does_b false ((show (decide ((Sp.dv l i) < 0)) = false from decide_eq_false (by omega)))) <| .a 13 5 <| .nil _ _) ?_
                    refine aw_fl 8322043 ?_
                    refine aw_sk ?_
                    refine then_normal ?_
                    refine aw_p1 (
                      .a 2 5 <| .nil _ _) ?_
                    refine block_normal ?_
                    refine then_normal ?_
                    refine aw_p1 (
                      .p (does_i (((i : Nat) : Int) + 1) (wrap_i64 (by omega) (by omega)) .i64) <| .a 1 5 <| .nil _ _) ?_
                    refine then_normal ?_
                    refine al_w [(2, .pointer (some ⟨1, 0, none⟩)), (3, .int .i64 0), (4, .string (ByteArray.mk (Sp.bdy l).toArray)), (5, .bool (Sp.hp45 l)), (6, .pointer (some ⟨2, 0, none⟩)), (39, .int .i64 (((Sp.bdy l).length : Nat) : Int)), (40, .int .i64 (((i + 1) : Nat) : Int))] [(1, ⟨[.int .i64 0, .int .u64 0], 68, true, 2⟩), (2, ⟨[.int .i64 (Sp.wh ((o * 10) + (Sp.dv l i))), .int .u64 (Sp.wl ((o * 10) + (Sp.dv l i)))], 68, true, 2⟩)] ?_
                    exact ih1 ((i + 1), ((o * 10) + (Sp.dv l i))) (show ((i + 1) ≤ (Sp.bdy l).length) ∧ (((o * 10) + (Sp.dv l i)) = Sp.pv l (i + 1)) ∧ (-170141183460469231731687303715884105728 ≤ ((o * 10) + (Sp.dv l i)) ∧ ((o * 10) + (Sp.dv l i)) < 170141183460469231731687303715884105728) from ⟨by omega, by (rw [hnx.1, ← ho]), by (first | (have q := (Sp.in128_iff _).1 hin2; omega) | (have q := (Sp.in128_iff _).1 hin; omega))⟩) (show (Sp.bdy l).length - (i + 1) < (Sp.bdy l).length - i from by omega)
                · have hin : Sp.in128 (o * 10) = false := h11
                  have hr := Sp.rd_out h60 hb (Sp.pv_out1 fB hil (by rw [← ho]; exact hin))
                  refine aw_p 260063 (
                    .a 1 3 <| .p (does_c (wtimes_out o 10 (by omega) (by omega) (by decide) (by decide) h11)) <| .a 6 3 <| .nil _ _) ?_
                  refine aw_sq 520126 520127 ?_
                  refine aw_p 1040253 (
                    .a 2 4 <| .nil _ _) ?_
                  refine aw_tr 2080506 ?_
                  refine aw_p 4161013 (
                    .a 4 4 <| .nil _ _) ?_
                  refine aw_rt ?_
                  refine then_ret ?_
                  refine block_ret ?_
                  refine then_ret ?_
                  refine then_ret ?_
                  refine block_ret ?_
                  refine then_ret ?_
                  exact en_ret [.agg #[.int .i64 0, .int .u64 0], .int .i64 2] (show (.tuple #[.agg #[.int .i64 0, .int .u64 0], .int .i64 2] : Value) = (.tuple #[.agg #[.int .i64 (Sp.wh (Sp.rdV l)), .int .u64 (Sp.wl (Sp.rdV l))], .int .i64 (Sp.rdE l)]) from (congrArg (fun z : List Value => Value.tuple z.toArray) (lcons (congrArg (fun z : List Value => Value.agg z.toArray) (lcons (congrArg (Value.int .i64) (show 0 = (Sp.wh (Sp.rdV l)) from by (first | (rw [hr.2]; done) | (rw [hr.1]; done) | (rw [hr.1]; decide) | (rw [hr.1]; rfl)))) (lcons (congrArg (Value.int .u64) (show 0 = (Sp.wl (Sp.rdV l)) from by (first | (rw [hr.2]; done) | (rw [hr.1]; done) | (rw [hr.1]; decide) | (rw [hr.1]; rfl)))) rfl))) (lcons (congrArg (Value.int .i64) (show 2 = (Sp.rdE l) from by (first | (rw [hr.2]; done) | (rw [hr.1]; done) | (rw [hr.1]; decide) | (rw [hr.1]; rfl)))) rfl))))
            · have h6p : ¬ ((((i : Nat) : Int) < (((Sp.bdy l).length : Nat) : Int))) := by first | (simpa using h6) | (have h6q := h6; simp at h6q; omega) | (have h6q := bx2 h6; simp at h6q; omega)
              have hie : i = (Sp.bdy l).length := by omega
              have hv : o = Sp.vlT l := (by rw [ho, hie]; exact Sp.pv_end l)
              have hr := Sp.rd_in h60 hb (by rw [← hv, Sp.in128_iff]; omega)
              rw [← hv] at hr
              refine aw_ex 0 ?_
              refine then_exit ?_
              refine then_exit ?_
              refine block_exit ?_
              refine then_normal ?_
              refine aw_p 255 (
                .a 3 3 <| .nil _ _) ?_
              refine aw_rt ?_
              exact en_ret [.agg #[.int .i64 (Sp.wh o), .int .u64 (Sp.wl o)], .int .i64 0] (show (.tuple #[.agg #[.int .i64 (Sp.wh o), .int .u64 (Sp.wl o)], .int .i64 0] : Value) = (.tuple #[.agg #[.int .i64 (Sp.wh (Sp.rdV l)), .int .u64 (Sp.wl (Sp.rdV l))], .int .i64 (Sp.rdE l)]) from (congrArg (fun z : List Value => Value.tuple z.toArray) (lcons (congrArg (fun z : List Value => Value.agg z.toArray) (lcons (congrArg (Value.int .i64) (show (Sp.wh o) = (Sp.wh (Sp.rdV l)) from by (first | (rw [hr.2]; done) | (rw [hr.1]; done) | (rw [hr.1]; decide) | (rw [hr.1]; rfl)))) (lcons (congrArg (Value.int .u64) (show (Sp.wl o) = (Sp.wl (Sp.rdV l)) from by (first | (rw [hr.2]; done) | (rw [hr.1]; done) | (rw [hr.1]; decide) | (rw [hr.1]; rfl)))) rfl))) (lcons (congrArg (Value.int .i64) (show 0 = (Sp.rdE l) from by (first | (rw [hr.2]; done) | (rw [hr.1]; done) | (rw [hr.1]; decide) | (rw [hr.1]; rfl)))) rfl))))
        · have h4p : ¬ ((((((Sp.bdy l).getD (0) 0).toNat : Nat) : Int) = 48)) := by first | (simpa using h4) | (have h4q := h4; simp at h4q; omega) | (have h4q := bx2 h4; simp at h4q; omega)
          have fC : ((((Sp.bdy l).getD 0 0).toNat : Int) == 48) = false := h4
          have hb : Sp.badT l = false := (by unfold Sp.badT; rw [fA, fB, fC]; rfl)
          refine aw_p 61 (
            .a 1 2 <| .p (does_bool (b' := false) (does_seq (t := 9) (t2 := 9) (x := .tmp 21) (y := .const (.string (ByteArray.mk #[]))) (Sp.bdy l) ([] : List UInt8) (by kernel_rfl) (by kernel_rfl) (by kernel_rfl)) (h2)) <| .a 2 2 <|
            .p (does_c (trim_ok (Sp.bdy l) (by first | omega | (simp; done) | (simp; omega)))) <|
            .p (does_bool (b' := false) (does_bool (b' := (!((Sp.bdy l).all Sp.dgB))) (does_sne (t := 9) (t2 := 9) (x := .tmp 25) (y := .const (.string (ByteArray.mk #[]))) (Sp.trL (Sp.trR (Sp.bdy l))) ([] : List UInt8) (by kernel_rfl) (by kernel_rfl) (by kernel_rfl)) ((show (!((Sp.trL (Sp.trR (Sp.bdy l))) == ([] : List UInt8))) = (!((Sp.bdy l).all Sp.dgB)) from (by rw [Sp.tr_nil])))) (h3)) <|
            .a 3 2 <| .p (does_six (t := 9) (x := .tmp 29) (y := .const (.int .i64 0)) (k := .i64) (j := 0) (Sp.bdy l) (0) (by kernel_rfl) (by kernel_rfl) (by kernel_rfl) (by kernel_rfl) (by omega) (by first | omega | (simp; done) | (simp; omega))) <| .p (does_b false (h4)) <| .a 5 2 <| .nil _ _) ?_
          refine aw_fl 123 ?_
          refine aw_sk ?_
          refine then_normal ?_
          refine aw_p 63 (
            .a 1 2 <| .nil _ _) ?_
          refine aw_sq 126 127 ?_
          refine aw_p 253 (
            .a 1 3 <| .p (does_slen (x := .tmp 38) 9 (Sp.bdy l) (by kernel_rfl) (by kernel_rfl) (by kernel_rfl) (by first | omega | (simp; done) | (simp; omega))) <| .a 1 3 <| .nil _ _) ?_
          refine aw_bl 0 507 ?_
          refine aw_lp 1015 ?_
          refine al_w [(2, .pointer (some ⟨1, 0, none⟩)), (3, .int .i64 0), (4, .string (ByteArray.mk (Sp.bdy l).toArray)), (5, .bool (Sp.hp45 l)), (6, .pointer (some ⟨2, 0, none⟩)), (39, .int .i64 (((Sp.bdy l).length : Nat) : Int)), (40, .int .i64 ((0 : Nat) : Int))] [(1, ⟨[.int .i64 0, .int .u64 0], 68, true, 2⟩), (2, ⟨[.int .i64 (Sp.wh 0), .int .u64 (Sp.wl 0)], 68, true, 2⟩)] ?_
          refine al_ind (fun i : Nat × Int => (fun (i : Nat) (o : Int) => mkSt 0 [(2, .pointer (some ⟨1, 0, none⟩)), (3, .int .i64 0), (4, .string (ByteArray.mk (Sp.bdy l).toArray)), (5, .bool (Sp.hp45 l)), (6, .pointer (some ⟨2, 0, none⟩)), (39, .int .i64 (((Sp.bdy l).length : Nat) : Int)), (40, .int .i64 ((i : Nat) : Int))] [(1, ⟨[.int .i64 0, .int .u64 0], 68, true, 2⟩), (2, ⟨[.int .i64 (Sp.wh o), .int .u64 (Sp.wl o)], 68, true, 2⟩)]) i.1 i.2) (fun i : Nat × Int => (fun (i : Nat) (o : Int) => (i ≤ (Sp.bdy l).length) ∧ (o = Sp.pv l i) ∧ (-170141183460469231731687303715884105728 ≤ o ∧ o < 170141183460469231731687303715884105728)) i.1 i.2) (fun i : Nat × Int => (fun (i : Nat) (o : Int) => (Sp.bdy l).length - i) i.1 i.2) (fun i hi2 ih2 => ?_) (0, 0) (show (0 ≤ (Sp.bdy l).length) ∧ (0 = Sp.pv l 0) ∧ (-170141183460469231731687303715884105728 ≤ 0 ∧ 0 < 170141183460469231731687303715884105728) from ⟨by omega, by (exact (Sp.pv_zero l).symm), by omega⟩)
          obtain ⟨i, o⟩ := i
          have hi2' : (i ≤ (Sp.bdy l).length) ∧ (o = Sp.pv l i) ∧ (-170141183460469231731687303715884105728 ≤ o ∧ o < 170141183460469231731687303715884105728) := hi2
          obtain ⟨hi, ho, hob⟩ := hi2'
          show AL _ _ _ (mkSt 0 [(2, .pointer (some ⟨1, 0, none⟩)), (3, .int .i64 0), (4, .string (ByteArray.mk (Sp.bdy l).toArray)), (5, .bool (Sp.hp45 l)), (6, .pointer (some ⟨2, 0, none⟩)), (39, .int .i64 (((Sp.bdy l).length : Nat) : Int)), (40, .int .i64 ((i : Nat) : Int))] [(1, ⟨[.int .i64 0, .int .u64 0], 68, true, 2⟩), (2, ⟨[.int .i64 (Sp.wh o), .int .u64 (Sp.wl o)], 68, true, 2⟩)]) _
          refine al_round ?_
          refine aw_p 2031 (
            .a 1 3 <| .nil _ _) ?_
          refine aw_sq 4062 4063 ?_
          refine aw_cd 8124 8125 (decide (((i : Nat) : Int) < (((Sp.bdy l).length : Nat) : Int))) (fun h14 => ?_) (fun h14 => ?_)
          · have h14p : ((((i : Nat) : Int) < (((Sp.bdy l).length : Nat) : Int))) := by first | (simpa using h14) | (have h14q := h14; simp at h14q; omega) | (have h14q := bx1 h14; simp at h14q; omega)
            have hil : i < (Sp.bdy l).length := by omega
            have hdg := Sp.all_get fB hil
            have hdv := Sp.dv_bd fB hil
            refine aw_sk ?_
            refine then_normal ?_
            refine aw_sq 8126 8127 ?_
            refine aw_bl 1 16253 ?_
            refine aw_p 32507 (
              .a 2 3 <| .nil _ _) ?_
            refine aw_p 65015 (
              .a 2 3 <| .p (does_six (t := 9) (x := .tmp 43) (y := .tmp 44) (k := .i64) (j := ((i : Nat) : Int)) (Sp.bdy l) i (by kernel_rfl) (by kernel_rfl) (by kernel_rfl) (by kernel_rfl) (by omega) (by first | omega | (simp; done) | (simp; omega))) <|
              .p (does_i (Sp.dv l i) ((show (IntKind.wrap .u8 (((((Sp.bdy l).getD i 0).toNat : Nat) : Int) - 48)) = (Sp.dv l i) from ((wrap_u8 (by omega) (by omega)).trans rfl))) .u8) <| .p (does_i (Sp.dv l i) (wrap_i64 (by omega) (by omega)) .i64) <| .a 1 3 <| .nil _ _) ?_
            refine aw_sq 130030 130031 ?_
            refine aw_p 260061 (
              .a 1 3 <| .nil _ _) ?_
            refine aw_cd 520122 520123 (Sp.hp45 l) (fun h15 => ?_) (fun h15 => ?_)
            · have hp : Sp.hp45 l = true := h15
              have hnx := Sp.pv_neg fB hil hp
              refine aw_p1 (
                .a 1 3 <| .p (does_i (0 - (Sp.dv l i)) (wrap_i64 (by omega) (by omega)) .i64) <| .a 1 3 <| .nil _ _) ?_
              refine then_normal ?_
              rcases Bool.eq_false_or_eq_true (Sp.in128 (o * 10)) with h16 | h16
              · have hin : Sp.in128 (o * 10) = true := h16
                refine aw_p 260063 (
                  .a 1 3 <| .p (does_c (wtimes_in o 10 (by omega) (by omega) (by decide) (by decide) h16)) <| .a 6 3 <| .nil _ _) ?_
                refine aw_sq 520126 520127 ?_
                refine aw_p 1040253 (
                  .a 2 4 <| .nil _ _) ?_
                refine aw_fl 2080507 ?_
                refine aw_sk ?_
                refine then_normal ?_
                refine aw_d 1040255 (
                  .a 2 4 <| .p (does_c (wof_ok (0 - (Sp.dv l i)) (by omega) (by omega))) <| .p (does_c (wadd_ok (o * 10) (0 - (Sp.dv l i)))) <| .a 2 4 <| .nil _ _) ?_
                refine aw_sq 2080510 2080511 ?_
                rcases Bool.eq_false_or_eq_true (decide ((0 - (Sp.dv l i)) < 0)) with h17 | h17
                · have h17p : (((0 - (Sp.dv l i)) < 0)) := by first | (simpa using h17) | (have h17q := h17; simp at h17q; omega) | (have h17q := bx1 h17; simp at h17q; omega)
                  rcases Bool.eq_false_or_eq_true (!(Sp.in128 ((o * 10) + (0 - (Sp.dv l i))))) with h18 | h18
                  · have hin2 : Sp.in128 ((o * 10) + (0 - (Sp.dv l i))) = false := (by simpa using h18)
                    have hr := Sp.rd_out h60 hb (Sp.pv_out2 fB (show i + 1 ≤ _ by omega) (by rw [hnx.1, ← ho]; exact hin2))
                    refine aw_p 4161021 (
                      .a 1 5 <| .p (does_b false ((show (decide ((0 - (Sp.dv l i)) > 0)) = false from decide_eq_false (by omega)))) <| .a 9 5 <| .p (does_b true (h17)) <| .a 5 5 <|
                      .p (does_b true (((show (decide ((Sp.wh ((o * 10) + (0 - (Sp.dv l i)))) > (Sp.wh (o * 10)))) = (!(Sp.in128 ((o * 10) + (0 - (Sp.dv l i))))) from Sp.nx_neg hin (by omega) (by omega))).trans (h18))) <| .a 4 5 <|
                      .p (does_b true ((show (decide ((Sp.wh (o * 10)) < 0)) = true from decide_eq_true (Sp.nx_low hin (by omega) (by omega) hin2)))) <| .a 2 5 <| .nil _ _) ?_
                    refine aw_tr 8322042 ?_
                    refine aw_p 16644085 (
                      .a 3 5 <| .nil _ _) ?_
                    refine aw_rt ?_
                    refine then_ret ?_
                    refine block_ret ?_
                    refine then_ret ?_
                    refine then_ret ?_
                    refine block_ret ?_
                    refine then_ret ?_
                    exact en_ret [.agg #[.int .i64 0, .int .u64 0], .int .i64 2] (show (.tuple #[.agg #[.int .i64 0, .int .u64 0], .int .i64 2] : Value) = (.tuple #[.agg #[.int .i64 (Sp.wh (Sp.rdV l)), .int .u64 (Sp.wl (Sp.rdV l))], .int .i64 (Sp.rdE l)]) from (congrArg (fun z : List Value => Value.tuple z.toArray) (lcons (congrArg (fun z : List Value => Value.agg z.toArray) (lcons (congrArg (Value.int .i64) (show 0 = (Sp.wh (Sp.rdV l)) from by (first | (rw [hr.2]; done) | (rw [hr.1]; done) | (rw [hr.1]; decide) | (rw [hr.1]; rfl)))) (lcons (congrArg (Value.int .u64) (show 0 = (Sp.wl (Sp.rdV l)) from by (first | (rw [hr.2]; done) | (rw [hr.1]; done) | (rw [hr.1]; decide) | (rw [hr.1]; rfl)))) rfl))) (lcons (congrArg (Value.int .i64) (show 2 = (Sp.rdE l) from by (first | (rw [hr.2]; done) | (rw [hr.1]; done) | (rw [hr.1]; decide) | (rw [hr.1]; rfl)))) rfl))))
                  · have hin2 : Sp.in128 ((o * 10) + (0 - (Sp.dv l i))) = true := (by simpa using h18)
                    refine aw_p 4161021 (
                      .a 1 5 <| .p (does_b false ((show (decide ((0 - (Sp.dv l i)) > 0)) = false from decide_eq_false (by omega)))) <| .a 9 5 <| .p (does_b true (h17)) <| .a 5 5 <|
                      .p (does_b false (((show (decide ((Sp.wh ((o * 10) + (0 - (Sp.dv l i)))) > (Sp.wh (o * 10)))) = (!(Sp.in128 ((o * 10) + (0 - (Sp.dv l i))))) from Sp.nx_neg hin (by omega) (by omega))).trans (h18))) <| .a 7 5 <| .nil _ _) ?_
                    refine aw_fl 8322043 ?_
                    refine aw_sk ?_
                    refine then_normal ?_
                    refine aw_p1 (
                      .a 2 5 <| .nil _ _) ?_
                    refine block_normal ?_
                    refine then_normal ?_
                    refine aw_p1 (
                      .p (does_i (((i : Nat) : Int) + 1) (wrap_i64 (by omega) (by omega)) .i64) <| .a 1 5 <| .nil _ _) ?_
                    refine then_normal ?_
                    refine al_w [(2, .pointer (some ⟨1, 0, none⟩)), (3, .int .i64 0), (4, .string (ByteArray.mk (Sp.bdy l).toArray)), (5, .bool (Sp.hp45 l)), (6, .pointer (some ⟨2, 0, none⟩)), (39, .int .i64 (((Sp.bdy l).length : Nat) : Int)), (40, .int .i64 (((i + 1) : Nat) : Int))] [(1, ⟨[.int .i64 0, .int .u64 0], 68, true, 2⟩), (2, ⟨[.int .i64 (Sp.wh ((o * 10) + (0 - (Sp.dv l i)))), .int .u64 (Sp.wl ((o * 10) + (0 - (Sp.dv l i))))], 68, true, 2⟩)] ?_
                    exact ih2 ((i + 1), ((o * 10) + (0 - (Sp.dv l i)))) (show ((i + 1) ≤ (Sp.bdy l).length) ∧ (((o * 10) + (0 - (Sp.dv l i))) = Sp.pv l (i + 1)) ∧ (-170141183460469231731687303715884105728 ≤ ((o * 10) + (0 - (Sp.dv l i))) ∧ ((o * 10) + (0 - (Sp.dv l i))) < 170141183460469231731687303715884105728) from ⟨by omega, by (rw [hnx.1, ← ho]), by (first | (have q := (Sp.in128_iff _).1 hin2; omega) | (have q := (Sp.in128_iff _).1 hin; omega))⟩) (show (Sp.bdy l).length - (i + 1) < (Sp.bdy l).length - i from by omega)
                · have h17p : ¬ (((0 - (Sp.dv l i)) < 0)) := by first | (simpa using h17) | (have h17q := h17; simp at h17q; omega) | (have h17q := bx2 h17; simp at h17q; omega)
                  refine aw_p 4161021 (
                    .a 1 5 <| .p (does_b false ((show (decide ((0 - (Sp.dv l i)) > 0)) = false from decide_eq_false (by omega)))) <| .a 9 5 <| .p (does_b false (h17)) <| .a 13 5 <| .nil _ _) ?_
                  refine aw_fl 8322043 ?_
                  refine aw_sk ?_
                  refine then_normal ?_
                  refine aw_p1 (
                    .a 2 5 <| .nil _ _) ?_
                  refine block_normal ?_
                  refine then_normal ?_
                  refine aw_p1 (
                    .p (does_i (((i : Nat) : Int) + 1) (wrap_i64 (by omega) (by omega)) .i64) <| .a 1 5 <| .nil _ _) ?_
                  refine then_normal ?_
                  refine al_w [(2, .pointer (some ⟨1, 0, none⟩)), (3, .int .i64 0), (4, .string (ByteArray.mk (Sp.bdy l).toArray)), (5, .bool (Sp.hp45 l)), (6, .pointer (some ⟨2, 0, none⟩)), (39, .int .i64 (((Sp.bdy l).length : Nat) : Int)), (40, .int .i64 (((i + 1) : Nat) : Int))] [(1, ⟨[.int .i64 0, .int .u64 0], 68, true, 2⟩), (2, ⟨[.int .i64 (Sp.wh ((o * 10) + (0 - (Sp.dv l i)))), .int .u64 (Sp.wl ((o * 10) + (0 - (Sp.dv l i))))], 68, true, 2⟩)] ?_
                  exact ih2 ((i + 1), ((o * 10) + (0 - (Sp.dv l i)))) (show ((i + 1) ≤ (Sp.bdy l).length) ∧ (((o * 10) + (0 - (Sp.dv l i))) = Sp.pv l (i + 1)) ∧ (-170141183460469231731687303715884105728 ≤ ((o * 10) + (0 - (Sp.dv l i))) ∧ ((o * 10) + (0 - (Sp.dv l i))) < 170141183460469231731687303715884105728) from ⟨by omega, by (rw [hnx.1, ← ho]), by (first | (have q := (Sp.in128_iff _).1 hin2; omega) | (have q := (Sp.in128_iff _).1 hin; omega))⟩) (show (Sp.bdy l).length - (i + 1) < (Sp.bdy l).length - i from by omega)
              · have hin : Sp.in128 (o * 10) = false := h16
                have hr := Sp.rd_out h60 hb (Sp.pv_out1 fB hil (by rw [← ho]; exact hin))
                refine aw_p 260063 (
                  .a 1 3 <| .p (does_c (wtimes_out o 10 (by omega) (by omega) (by decide) (by decide) h16)) <| .a 6 3 <| .nil _ _) ?_
                refine aw_sq 520126 520127 ?_
                refine aw_p 1040253 (
                  .a 2 4 <| .nil _ _) ?_
                refine aw_tr 2080506 ?_
                refine aw_p 4161013 (
                  .a 4 4 <| .nil _ _) ?_
                refine aw_rt ?_
                refine then_ret ?_
                refine block_ret ?_
                refine then_ret ?_
                refine then_ret ?_
                refine block_ret ?_
                refine then_ret ?_
                exact en_ret [.agg #[.int .i64 0, .int .u64 0], .int .i64 2] (show (.tuple #[.agg #[.int .i64 0, .int .u64 0], .int .i64 2] : Value) = (.tuple #[.agg #[.int .i64 (Sp.wh (Sp.rdV l)), .int .u64 (Sp.wl (Sp.rdV l))], .int .i64 (Sp.rdE l)]) from (congrArg (fun z : List Value => Value.tuple z.toArray) (lcons (congrArg (fun z : List Value => Value.agg z.toArray) (lcons (congrArg (Value.int .i64) (show 0 = (Sp.wh (Sp.rdV l)) from by (first | (rw [hr.2]; done) | (rw [hr.1]; done) | (rw [hr.1]; decide) | (rw [hr.1]; rfl)))) (lcons (congrArg (Value.int .u64) (show 0 = (Sp.wl (Sp.rdV l)) from by (first | (rw [hr.2]; done) | (rw [hr.1]; done) | (rw [hr.1]; decide) | (rw [hr.1]; rfl)))) rfl))) (lcons (congrArg (Value.int .i64) (show 2 = (Sp.rdE l) from by (first | (rw [hr.2]; done) | (rw [hr.1]; done) | (rw [hr.1]; decide) | (rw [hr.1]; rfl)))) rfl))))
            · have hp : Sp.hp45 l = false := h15
              have hnx := Sp.pv_pos fB hil hp
              refine aw_sk ?_
              refine then_normal ?_
              rcases Bool.eq_false_or_eq_true (Sp.in128 (o * 10)) with h19 | h19
              · have hin : Sp.in128 (o * 10) = true := h19
                refine aw_p 260063 (
                  .a 1 3 <| .p (does_c (wtimes_in o 10 (by omega) (by omega) (by decide) (by decide) h19)) <| .a 6 3 <| .nil _ _) ?_
                refine aw_sq 520126 520127 ?_
                refine aw_p 1040253 (
                  .a 2 4 <| .nil _ _) ?_
                refine aw_fl 2080507 ?_
                refine aw_sk ?_
                refine then_normal ?_
                refine aw_d 1040255 (
                  .a 2 4 <| .p (does_c (wof_ok (Sp.dv l i) (by omega) (by omega))) <| .p (does_c (wadd_ok (o * 10) (Sp.dv l i))) <| .a 2 4 <| .nil _ _) ?_
                refine aw_sq 2080510 2080511 ?_
                rcases Bool.eq_false_or_eq_true (decide ((Sp.dv l i) > 0)) with h20 | h20
                · have h20p : (((Sp.dv l i) > 0)) := by first | (simpa using h20) | (have h20q := h20; simp at h20q; omega) | (have h20q := bx1 h20; simp at h20q; omega)
                  rcases Bool.eq_false_or_eq_true (!(Sp.in128 ((o * 10) + (Sp.dv l i)))) with h21 | h21
                  · have hin2 : Sp.in128 ((o * 10) + (Sp.dv l i)) = false := (by simpa using h21)
                    have hr := Sp.rd_out h60 hb (Sp.pv_out2 fB (show i + 1 ≤ _ by omega) (by rw [hnx.1, ← ho]; exact hin2))
                    refine aw_p 4161021 (
                      .a 1 5 <| .p (does_b true (h20)) <| .a 5 5 <| .p (does_b true (((show (decide ((Sp.wh ((o * 10) + (Sp.dv l i))) < (Sp.wh (o * 10)))) = (!(Sp.in128 ((o * 10) + (Sp.dv l i)))) from Sp.nx_pos hin (by omega) (by omega))).trans (h21))) <| .a 17 5 <| .nil _ _) ?_
                    refine aw_tr 8322042 ?_
                    refine aw_p 16644085 (
                      .a 3 5 <| .nil _ _) ?_
                    refine aw_rt ?_
                    refine then_ret ?_
                    refine block_ret ?_
                    refine then_ret ?_
                    refine then_ret ?_
                    refine block_ret ?_
                    refine then_ret ?_
                    exact en_ret [.agg #[.int .i64 0, .int .u64 0], .int .i64 2] (show (.tuple #[.agg #[.int .i64 0, .int .u64 0], .int .i64 2] : Value) = (.tuple #[.agg #[.int .i64 (Sp.wh (Sp.rdV l)), .int .u64 (Sp.wl (Sp.rdV l))], .int .i64 (Sp.rdE l)]) from (congrArg (fun z : List Value => Value.tuple z.toArray) (lcons (congrArg (fun z : List Value => Value.agg z.toArray) (lcons (congrArg (Value.int .i64) (show 0 = (Sp.wh (Sp.rdV l)) from by (first | (rw [hr.2]; done) | (rw [hr.1]; done) | (rw [hr.1]; decide) | (rw [hr.1]; rfl)))) (lcons (congrArg (Value.int .u64) (show 0 = (Sp.wl (Sp.rdV l)) from by (first | (rw [hr.2]; done) | (rw [hr.1]; done) | (rw [hr.1]; decide) | (rw [hr.1]; rfl)))) rfl))) (lcons (congrArg (Value.int .i64) (show 2 = (Sp.rdE l) from by (first | (rw [hr.2]; done) | (rw [hr.1]; done) | (rw [hr.1]; decide) | (rw [hr.1]; rfl)))) rfl))))
                  · have hin2 : Sp.in128 ((o * 10) + (Sp.dv l i)) = true := (by simpa using h21)
                    refine aw_p 4161021 (
                      .a 1 5 <| .p (does_b true (h20)) <| .a 5 5 <| .p (does_b false (((show (decide ((Sp.wh ((o * 10) + (Sp.dv l i))) < (Sp.wh (o * 10)))) = (!(Sp.in128 ((o * 10) + (Sp.dv l i)))) from Sp.nx_pos hin (by omega) (by omega))).trans (h21))) <| .a 3 5 <|
                      .p (does_b false ((show (decide ((Sp.dv l i) < 0)) = false from decide_eq_false (by omega)))) <| .a 13 5 <| .nil _ _) ?_
                    refine aw_fl 8322043 ?_
                    refine aw_sk ?_
                    refine then_normal ?_
                    refine aw_p1 (
                      .a 2 5 <| .nil _ _) ?_
                    refine block_normal ?_
                    refine then_normal ?_
                    refine aw_p1 (
                      .p (does_i (((i : Nat) : Int) + 1) (wrap_i64 (by omega) (by omega)) .i64) <| .a 1 5 <| .nil _ _) ?_
                    refine then_normal ?_
                    refine al_w [(2, .pointer (some ⟨1, 0, none⟩)), (3, .int .i64 0), (4, .string (ByteArray.mk (Sp.bdy l).toArray)), (5, .bool (Sp.hp45 l)), (6, .pointer (some ⟨2, 0, none⟩)), (39, .int .i64 (((Sp.bdy l).length : Nat) : Int)), (40, .int .i64 (((i + 1) : Nat) : Int))] [(1, ⟨[.int .i64 0, .int .u64 0], 68, true, 2⟩), (2, ⟨[.int .i64 (Sp.wh ((o * 10) + (Sp.dv l i))), .int .u64 (Sp.wl ((o * 10) + (Sp.dv l i)))], 68, true, 2⟩)] ?_
                    exact ih2 ((i + 1), ((o * 10) + (Sp.dv l i))) (show ((i + 1) ≤ (Sp.bdy l).length) ∧ (((o * 10) + (Sp.dv l i)) = Sp.pv l (i + 1)) ∧ (-170141183460469231731687303715884105728 ≤ ((o * 10) + (Sp.dv l i)) ∧ ((o * 10) + (Sp.dv l i)) < 170141183460469231731687303715884105728) from ⟨by omega, by (rw [hnx.1, ← ho]), by (first | (have q := (Sp.in128_iff _).1 hin2; omega) | (have q := (Sp.in128_iff _).1 hin; omega))⟩) (show (Sp.bdy l).length - (i + 1) < (Sp.bdy l).length - i from by omega)
                · have h20p : ¬ (((Sp.dv l i) > 0)) := by first | (simpa using h20) | (have h20q := h20; simp at h20q; omega) | (have h20q := bx2 h20; simp at h20q; omega)
                  refine aw_p 4161021 (
                    .a 1 5 <| .p (does_b false (h20)) <| .a 9 5 <| .p (does_b false ((show (decide ((Sp.dv l i) < 0)) = false from decide_eq_false (by omega)))) <| .a 13 5 <| .nil _ _) ?_
                  refine aw_fl 8322043 ?_
                  refine aw_sk ?_
                  refine then_normal ?_
                  refine aw_p1 (
                    .a 2 5 <| .nil _ _) ?_
                  refine block_normal ?_
                  refine then_normal ?_
                  refine aw_p1 (
                    .p (does_i (((i : Nat) : Int) + 1) (wrap_i64 (by omega) (by omega)) .i64) <| .a 1 5 <| .nil _ _) ?_
                  refine then_normal ?_
                  refine al_w [(2, .pointer (some ⟨1, 0, none⟩)), (3, .int .i64 0), (4, .string (ByteArray.mk (Sp.bdy l).toArray)), (5, .bool (Sp.hp45 l)), (6, .pointer (some ⟨2, 0, none⟩)), (39, .int .i64 (((Sp.bdy l).length : Nat) : Int)), (40, .int .i64 (((i + 1) : Nat) : Int))] [(1, ⟨[.int .i64 0, .int .u64 0], 68, true, 2⟩), (2, ⟨[.int .i64 (Sp.wh ((o * 10) + (Sp.dv l i))), .int .u64 (Sp.wl ((o * 10) + (Sp.dv l i)))], 68, true, 2⟩)] ?_
                  exact ih2 ((i + 1), ((o * 10) + (Sp.dv l i))) (show ((i + 1) ≤ (Sp.bdy l).length) ∧ (((o * 10) + (Sp.dv l i)) = Sp.pv l (i + 1)) ∧ (-170141183460469231731687303715884105728 ≤ ((o * 10) + (Sp.dv l i)) ∧ ((o * 10) + (Sp.dv l i)) < 170141183460469231731687303715884105728) from ⟨by omega, by (rw [hnx.1, ← ho]), by (first | (have q := (Sp.in128_iff _).1 hin2; omega) | (have q := (Sp.in128_iff _).1 hin; omega))⟩) (show (Sp.bdy l).length - (i + 1) < (Sp.bdy l).length - i from by omega)
              · have hin : Sp.in128 (o * 10) = false := h19
                have hr := Sp.rd_out h60 hb (Sp.pv_out1 fB hil (by rw [← ho]; exact hin))
                refine aw_p 260063 (
                  .a 1 3 <| .p (does_c (wtimes_out o 10 (by omega) (by omega) (by decide) (by decide) h19)) <| .a 6 3 <| .nil _ _) ?_
                refine aw_sq 520126 520127 ?_
                refine aw_p 1040253 (
                  .a 2 4 <| .nil _ _) ?_
                refine aw_tr 2080506 ?_
                refine aw_p 4161013 (
                  .a 4 4 <| .nil _ _) ?_
                refine aw_rt ?_
                refine then_ret ?_
                refine block_ret ?_
                refine then_ret ?_
                refine then_ret ?_
                refine block_ret ?_
                refine then_ret ?_
                exact en_ret [.agg #[.int .i64 0, .int .u64 0], .int .i64 2] (show (.tuple #[.agg #[.int .i64 0, .int .u64 0], .int .i64 2] : Value) = (.tuple #[.agg #[.int .i64 (Sp.wh (Sp.rdV l)), .int .u64 (Sp.wl (Sp.rdV l))], .int .i64 (Sp.rdE l)]) from (congrArg (fun z : List Value => Value.tuple z.toArray) (lcons (congrArg (fun z : List Value => Value.agg z.toArray) (lcons (congrArg (Value.int .i64) (show 0 = (Sp.wh (Sp.rdV l)) from by (first | (rw [hr.2]; done) | (rw [hr.1]; done) | (rw [hr.1]; decide) | (rw [hr.1]; rfl)))) (lcons (congrArg (Value.int .u64) (show 0 = (Sp.wl (Sp.rdV l)) from by (first | (rw [hr.2]; done) | (rw [hr.1]; done) | (rw [hr.1]; decide) | (rw [hr.1]; rfl)))) rfl))) (lcons (congrArg (Value.int .i64) (show 2 = (Sp.rdE l) from by (first | (rw [hr.2]; done) | (rw [hr.1]; done) | (rw [hr.1]; decide) | (rw [hr.1]; rfl)))) rfl))))
          · have h14p : ¬ ((((i : Nat) : Int) < (((Sp.bdy l).length : Nat) : Int))) := by first | (simpa using h14) | (have h14q := h14; simp at h14q; omega) | (have h14q := bx2 h14; simp at h14q; omega)
            have hie : i = (Sp.bdy l).length := by omega
            have hv : o = Sp.vlT l := (by rw [ho, hie]; exact Sp.pv_end l)
            have hr := Sp.rd_in h60 hb (by rw [← hv, Sp.in128_iff]; omega)
            rw [← hv] at hr
            refine aw_ex 0 ?_
            refine then_exit ?_
            refine then_exit ?_
            refine block_exit ?_
            refine then_normal ?_
            refine aw_p 255 (
              .a 3 3 <| .nil _ _) ?_
            refine aw_rt ?_
            exact en_ret [.agg #[.int .i64 (Sp.wh o), .int .u64 (Sp.wl o)], .int .i64 0] (show (.tuple #[.agg #[.int .i64 (Sp.wh o), .int .u64 (Sp.wl o)], .int .i64 0] : Value) = (.tuple #[.agg #[.int .i64 (Sp.wh (Sp.rdV l)), .int .u64 (Sp.wl (Sp.rdV l))], .int .i64 (Sp.rdE l)]) from (congrArg (fun z : List Value => Value.tuple z.toArray) (lcons (congrArg (fun z : List Value => Value.agg z.toArray) (lcons (congrArg (Value.int .i64) (show (Sp.wh o) = (Sp.wh (Sp.rdV l)) from by (first | (rw [hr.2]; done) | (rw [hr.1]; done) | (rw [hr.1]; decide) | (rw [hr.1]; rfl)))) (lcons (congrArg (Value.int .u64) (show (Sp.wl o) = (Sp.wl (Sp.rdV l)) from by (first | (rw [hr.2]; done) | (rw [hr.1]; done) | (rw [hr.1]; decide) | (rw [hr.1]; rfl)))) rfl))) (lcons (congrArg (Value.int .i64) (show 0 = (Sp.rdE l) from by (first | (rw [hr.2]; done) | (rw [hr.1]; done) | (rw [hr.1]; decide) | (rw [hr.1]; rfl)))) rfl))))


end Go.Proofs.YtngmegnaohmapaaDoor.Am
