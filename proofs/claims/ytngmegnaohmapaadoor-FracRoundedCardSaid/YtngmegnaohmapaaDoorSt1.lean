/-
  The walks of the library's functions of strings.
-/
import Derived.Test.YtngmegnaohmapaaDoorProg
import Derived.Test.YtngmegnaohmapaaDoorAm16
import Derived.Test.YtngmegnaohmapaaDoorAm27
import Derived.Test.YtngmegnaohmapaaDoorTx3
import Derived.Test.YtngmegnaohmapaaDoorWd1
namespace Go.Proofs.YtngmegnaohmapaaDoor.Am
open Go Go.Proofs
set_option maxRecDepth 100000
set_option maxHeartbeats 4000000
set_option linter.unusedVariables false
set_option linter.unusedSimpArgs false

theorem hasprefix_ok (l : List UInt8) (hz : l.length ≤ 9223372036854775807) :
    AC Tryd.prog 85 0 ([.string (ByteArray.mk (l).toArray), .string (ByteArray.mk #[45])]) [] (.bool (Sp.hp45 l)) [] := by
  refine ac_in Tryd.func85 (fun w0 W pin => ?_)
  refine aw_p 3 (
    .a 1 1 <| .nil _ _) ?_
  rcases Bool.eq_false_or_eq_true (decide (((l.length : Nat) : Int) ≥ 1)) with h1 | h1
  · have h1p : ((((l.length : Nat) : Int) ≥ 1)) := by first | (simpa using h1) | (have h1q := h1; simp at h1q; omega) | (have h1q := bx1 h1; simp at h1q; omega)
    refine aw_p 7 (
      .a 1 1 <| .p (does_slen (x := .tmp 5) 9 l (by kernel_rfl) (by kernel_rfl) (by kernel_rfl) (by first | omega | (simp; done) | (simp; omega))) <| .a 1 1 <| .p (does_pure (v := .int .i64 1) (by kernel_rfl) (fun w => by kernel_rfl) (by kernel_rfl)) <| .p (does_b true (h1)) <| .a 3 1 <|
      .p (does_pure (v := .int .i64 1) (by kernel_rfl) (fun w => by kernel_rfl) (by kernel_rfl)) <| .p (does_sto (t := 9) (x := .tmp 11) (y := .tmp 13) (k := .i64) (j := 1) l (1) (by kernel_rfl) (by kernel_rfl) (by kernel_rfl) (by kernel_rfl) (by omega) (by first | omega | (simp; done) | (simp; omega))) <|
      .a 1 1 <| .p (does_seq (t := 9) (t2 := 9) (x := .tmp 14) (y := .tmp 15) (l.take (1)) ([45] : List UInt8) (by kernel_rfl) (by kernel_rfl) (by kernel_rfl)) <| .a 2 1 <| .nil _ _) ?_
    refine aw_rt ?_
    exact en_ret [.bool ((l.take (1)) == ([45] : List UInt8))] (show (.bool ((l.take (1)) == ([45] : List UInt8)) : Value) = (.bool (Sp.hp45 l)) from (congrArg Value.bool (show ((l.take (1)) == ([45] : List UInt8)) = (Sp.hp45 l) from by (unfold Sp.hp45; first | (rw [decide_eq_true (p := 1 ≤ l.length) (by omega)]; rfl) | (rw [decide_eq_false (p := 1 ≤ l.length) (by omega)]; rfl)))))
  · have h1p : ¬ ((((l.length : Nat) : Int) ≥ 1)) := by first | (simpa using h1) | (have h1q := h1; simp at h1q; omega) | (have h1q := bx2 h1; simp at h1q; omega)
    refine aw_p 7 (
      .a 1 1 <| .p (does_slen (x := .tmp 5) 9 l (by kernel_rfl) (by kernel_rfl) (by kernel_rfl) (by first | omega | (simp; done) | (simp; omega))) <| .a 1 1 <| .p (does_pure (v := .int .i64 1) (by kernel_rfl) (fun w => by kernel_rfl) (by kernel_rfl)) <| .p (does_b false (h1)) <| .a 9 1 <| .nil _ _) ?_
    refine aw_rt ?_
    exact en_ret [.bool false] (show (.bool false : Value) = (.bool (Sp.hp45 l)) from (congrArg Value.bool (show false = (Sp.hp45 l) from by (unfold Sp.hp45; first | (rw [decide_eq_true (p := 1 ≤ l.length) (by omega)]; rfl) | (rw [decide_eq_false (p := 1 ≤ l.length) (by omega)]; rfl)))))

theorem cutprefix0_ok (l : List UInt8) (hz : l.length ≤ 9223372036854775807) :
    AC Tryd.prog 75 0 ([.string (ByteArray.mk (l).toArray), .string (ByteArray.mk #[45])]) [] (.tuple #[.string (ByteArray.mk (Sp.bdy l).toArray), .bool (Sp.hp45 l)]) [] := by
  refine ac_in Tryd.func75 (fun w0 W pin => ?_)
  refine aw_p 3 (
    .a 2 1 <| .nil _ _) ?_
  refine aw_sq 6 7 ?_
  refine aw_p 13 (
    .a 2 1 <| .p (does_c (hasprefix_ok l (by first | omega | (simp; done) | (simp; omega)))) <| .a 1 1 <| .nil _ _) ?_
  refine aw_cd 26 27 (!(Sp.hp45 l)) (fun h1 => ?_) (fun h1 => ?_)
  · have hp : Sp.hp45 l = false := (by simpa using h1)
    refine aw_p 53 (
      .a 3 1 <| .nil _ _) ?_
    refine aw_rt ?_
    refine then_ret ?_
    exact en_ret [.string (ByteArray.mk (l).toArray), .bool false] (show (.tuple #[.string (ByteArray.mk (l).toArray), .bool false] : Value) = (.tuple #[.string (ByteArray.mk (Sp.bdy l).toArray), .bool (Sp.hp45 l)]) from (congrArg (fun z : List Value => Value.tuple z.toArray) (lcons (congrArg (fun z : List UInt8 => Value.string (ByteArray.mk z.toArray)) (show l = (Sp.bdy l) from by (first | exact hp.symm | (unfold Sp.bdy; rw [if_pos hp]) | (unfold Sp.bdy; rw [if_neg (by rw [hp]; decide)])))) (lcons (congrArg Value.bool (show false = (Sp.hp45 l) from by (first | exact hp.symm | (unfold Sp.bdy; rw [if_pos hp]) | (unfold Sp.bdy; rw [if_neg (by rw [hp]; decide)])))) rfl))))
  · have hp : Sp.hp45 l = true := (by simpa using h1)
    have hlp : 1 ≤ l.length := (by have q := congrArg List.length (Sp.hp_cons hp); simp at q; omega)
    refine aw_sk ?_
    refine then_normal ?_
    refine aw_p 15 (
      .a 2 1 <| .p (does_pure (v := .int .i64 1) (by kernel_rfl) (fun w => by kernel_rfl) (by kernel_rfl)) <|
      .p (does_sfrom (t := 9) (x := .tmp 11) (y := .tmp 13) (k := .i64) (j := 1) l (1) (by kernel_rfl) (by kernel_rfl) (by kernel_rfl) (by kernel_rfl) (by omega) (by first | omega | (simp; done) | (simp; omega))) <| .a 2 1 <| .nil _ _) ?_
    refine aw_rt ?_
    exact en_ret [.string (ByteArray.mk (l.drop (1)).toArray), .bool true] (show (.tuple #[.string (ByteArray.mk (l.drop (1)).toArray), .bool true] : Value) = (.tuple #[.string (ByteArray.mk (Sp.bdy l).toArray), .bool (Sp.hp45 l)]) from (congrArg (fun z : List Value => Value.tuple z.toArray) (lcons (congrArg (fun z : List UInt8 => Value.string (ByteArray.mk z.toArray)) (show (l.drop (1)) = (Sp.bdy l) from by (first | exact hp.symm | (unfold Sp.bdy; rw [if_pos hp]) | (unfold Sp.bdy; rw [if_neg (by rw [hp]; decide)])))) (lcons (congrArg Value.bool (show true = (Sp.hp45 l) from by (first | exact hp.symm | (unfold Sp.bdy; rw [if_pos hp]) | (unfold Sp.bdy; rw [if_neg (by rw [hp]; decide)])))) rfl))))

theorem cutprefix_ok (l : List UInt8) (hz : l.length ≤ 9223372036854775807) :
    AC Tryd.prog 60 0 ([.string (ByteArray.mk (l).toArray), .string (ByteArray.mk #[45])]) [] (.tuple #[.string (ByteArray.mk (Sp.bdy l).toArray), .bool (Sp.hp45 l)]) [] := by
  refine ac_in Tryd.func60 (fun w0 W pin => ?_)
  refine aw_p 3 (
    .a 2 1 <| .nil _ _) ?_
  refine aw_p 7 (
    .a 2 1 <| .p (does_c (cutprefix0_ok l (by first | omega | (simp; done) | (simp; omega)))) <| .a 4 1 <| .nil _ _) ?_
  refine aw_rt ?_
  exact en_ret [.string (ByteArray.mk (Sp.bdy l).toArray), .bool (Sp.hp45 l)] (by kernel_rfl)

theorem trimprefix0_ok (l : List UInt8) (hz : l.length ≤ 9223372036854775807) :
    AC Tryd.prog 64 0 ([.string (ByteArray.mk (l).toArray), .string (ByteArray.mk #[45])]) [] (.string (ByteArray.mk (Sp.bdy l).toArray)) [] := by
  refine ac_in Tryd.func64 (fun w0 W pin => ?_)
  refine aw_p 3 (
    .a 1 1 <| .nil _ _) ?_
  refine aw_sq 6 7 ?_
  refine aw_p 13 (
    .a 2 1 <| .p (does_c (hasprefix_ok l (by first | omega | (simp; done) | (simp; omega)))) <| .nil _ _) ?_
  refine aw_cd 26 27 (Sp.hp45 l) (fun h1 => ?_) (fun h1 => ?_)
  · have hp : Sp.hp45 l = true := h1
    have hlp : 1 ≤ l.length := (by have q := congrArg List.length (Sp.hp_cons hp); simp at q; omega)
    refine aw_p 53 (
      .a 2 1 <| .p (does_pure (v := .int .i64 1) (by kernel_rfl) (fun w => by kernel_rfl) (by kernel_rfl)) <|
      .p (does_sfrom (t := 9) (x := .tmp 8) (y := .tmp 10) (k := .i64) (j := 1) l (1) (by kernel_rfl) (by kernel_rfl) (by kernel_rfl) (by kernel_rfl) (by omega) (by first | omega | (simp; done) | (simp; omega))) <| .a 1 1 <| .nil _ _) ?_
    refine aw_rt ?_
    refine then_ret ?_
    exact en_ret [.string (ByteArray.mk (l.drop (1)).toArray)] (show (.string (ByteArray.mk (l.drop (1)).toArray) : Value) = (.string (ByteArray.mk (Sp.bdy l).toArray)) from (congrArg (fun z : List UInt8 => Value.string (ByteArray.mk z.toArray)) (show (l.drop (1)) = (Sp.bdy l) from by (first | exact hp.symm | (unfold Sp.bdy; rw [if_pos hp]) | (unfold Sp.bdy; rw [if_neg (by rw [hp]; decide)])))))
  · have hp : Sp.hp45 l = false := h1
    refine aw_sk ?_
    refine then_normal ?_
    refine aw_p 15 (
      .a 2 1 <| .nil _ _) ?_
    refine aw_rt ?_
    exact en_ret [.string (ByteArray.mk (l).toArray)] (show (.string (ByteArray.mk (l).toArray) : Value) = (.string (ByteArray.mk (Sp.bdy l).toArray)) from (congrArg (fun z : List UInt8 => Value.string (ByteArray.mk z.toArray)) (show l = (Sp.bdy l) from by (first | exact hp.symm | (unfold Sp.bdy; rw [if_pos hp]) | (unfold Sp.bdy; rw [if_neg (by rw [hp]; decide)])))))

theorem trimprefix_ok (l : List UInt8) (hz : l.length ≤ 9223372036854775807) :
    AC Tryd.prog 46 0 ([.string (ByteArray.mk (l).toArray), .string (ByteArray.mk #[45])]) [] (.string (ByteArray.mk (Sp.bdy l).toArray)) [] := by
  refine ac_in Tryd.func46 (fun w0 W pin => ?_)
  refine aw_p 3 (
    .a 1 1 <| .nil _ _) ?_
  refine aw_p 7 (
    .a 2 1 <| .p (does_c (trimprefix0_ok l (by first | omega | (simp; done) | (simp; omega)))) <| .a 1 1 <| .nil _ _) ?_
  refine aw_rt ?_
  exact en_ret [.string (ByteArray.mk (Sp.bdy l).toArray)] (by kernel_rfl)

theorem asciiset_ok  :
    AC Tryd.prog 78 0 ([.string (ByteArray.mk #[48, 49, 50, 51, 52, 53, 54, 55, 56, 57])]) [] (.tuple #[.agg ((Sp.tabD 10).map boolv).toArray, .bool true]) [] := by
  refine ac_in Tryd.func78 (fun w0 W pin => ?_)
  refine aw_p 3 (
    .p (does_alloc (t := 96) (k := 1) (v := .agg ((List.replicate 256 false).map boolv).toArray) (cells := ((List.replicate 256 false).map boolv)) (st := 1) (by kernel_rfl) (by kernel_rfl) (by kernel_rfl) (by kernel_rfl) (by kernel_rfl)) <| .a 1 2 <| .nil _ _) ?_
  refine aw_sq 6 7 ?_
  refine aw_p 13 (
    .a 1 2 <| .nil _ _) ?_
  refine aw_bl 0 27 ?_
  refine aw_lp 55 ?_
  refine al_w [(0, .string (ByteArray.mk #[48, 49, 50, 51, 52, 53, 54, 55, 56, 57])), (2, .pointer (some ⟨1, 0, none⟩)), (3, .bool false), (4, .int .i64 ((0 : Nat) : Int))] [(1, ⟨((Sp.tabD 0).map boolv), 96, true, 1⟩)] ?_ (hc := (by simp [closedB, valsB, valB, List.all_eq_true, List.mem_map, boolv, u8v, lds, flat1]; try (intros; simp [valsB, valB, flat1]); try decide))
  refine al_ind (fun i : Nat => (fun (i : Nat) => mkSt 0 [(0, .string (ByteArray.mk #[48, 49, 50, 51, 52, 53, 54, 55, 56, 57])), (2, .pointer (some ⟨1, 0, none⟩)), (3, .bool false), (4, .int .i64 ((i : Nat) : Int))] [(1, ⟨((Sp.tabD i).map boolv), 96, true, 1⟩)]) i) (fun i : Nat => (fun (i : Nat) => (i ≤ 10)) i) (fun i : Nat => (fun (i : Nat) => 10 - i) i) (fun i hi1 ih1 => ?_) 0 (show (0 ≤ 10) from by omega)
  obtain ⟨i, hv1⟩ : ∃ z, z = i := ⟨i, rfl⟩; subst hv1
  have hi1' : (i ≤ 10) := hi1
  have hi : i ≤ 10 := hi1'
  show AL _ _ _ (mkSt 0 [(0, .string (ByteArray.mk #[48, 49, 50, 51, 52, 53, 54, 55, 56, 57])), (2, .pointer (some ⟨1, 0, none⟩)), (3, .bool false), (4, .int .i64 ((i : Nat) : Int))] [(1, ⟨((Sp.tabD i).map boolv), 96, true, 1⟩)]) _
  refine al_round ?_
  refine aw_sq 110 111 ?_
  refine aw_p 221 (
    .a 2 2 <| .p (does_pure (v := .int .i64 10) (by kernel_rfl) (fun w => by kernel_rfl) (by kernel_rfl)) <| .a 1 2 <| .nil _ _) ?_
  refine aw_cd 442 443 (decide (((i : Nat) : Int) < 10)) (fun h1 => ?_) (fun h1 => ?_)
  · have h1p : ((((i : Nat) : Int) < 10)) := by first | (simpa using h1) | (have h1q := h1; simp at h1q; omega) | (have h1q := bx1 h1; simp at h1q; omega)
    refine aw_sk ?_
    refine then_normal ?_
    refine aw_sq 222 223 ?_
    refine aw_bl 1 445 ?_
    refine aw_p 891 (
      .a 2 2 <|
      .p (does_int (n' := ((48 + i : Nat) : Int)) (does_six (t := 9) (x := .tmp 12) (y := .tmp 13) (k := .i64) (j := ((i : Nat) : Int)) ([48, 49, 50, 51, 52, 53, 54, 55, 56, 57] : List UInt8) i (by kernel_rfl) (by kernel_rfl) (by kernel_rfl) (by kernel_rfl) (by omega) (by first | omega | (simp; done) | (simp; omega))) ((show (((([48, 49, 50, 51, 52, 53, 54, 55, 56, 57] : List UInt8).getD i 0).toNat : Nat) : Int) = ((48 + i : Nat) : Int) from (by rcases (show i = 0 ∨ i = 1 ∨ i = 2 ∨ i = 3 ∨ i = 4 ∨ i = 5 ∨ i = 6 ∨ i = 7 ∨ i = 8 ∨ i = 9 by omega) with rfl | rfl | rfl | rfl | rfl | rfl | rfl | rfl | rfl | rfl <;> rfl)))) <|
      .a 1 2 <| .nil _ _) ?_
    refine aw_sq 1782 1783 ?_
    refine aw_p 3565 (
      .a 1 2 <| .p (does_b false ((show (decide (((48 + i : Nat) : Int) ≥ 128)) = false from decide_eq_false (by omega)))) <| .nil _ _) ?_
    refine aw_fl 7131 ?_
    refine aw_sk ?_
    refine then_normal ?_
    refine aw_p1 (
      .a 1 2 <| .p (does_indexArr (t := 96) (x := .tmp 2) (y := .tmp 18) (k := 1) (off := 0) (n := 256) (z := 1) (kd := .u8) (j := ((48 + i : Nat) : Int)) (by kernel_rfl) (by kernel_rfl) (by kernel_rfl) (by kernel_rfl) (by kernel_rfl) (by omega) (by omega)) <|
      .p (does_store (t := 4) (x := .tmp 19) (y := .const (.bool true)) (k := 1) (off := (0 + (((48 + i : Nat) : Int)).toNat * 1)) (b := ⟨((Sp.tabD i).map boolv), 96, true, 1⟩) (v := .bool true) (cells := (((Sp.tabD i).set (48 + i) true).map boolv)) (by kernel_rfl) (by kernel_rfl) (by kernel_rfl) (by kernel_rfl) (by kernel_rfl) (by kernel_rfl) (by kernel_rfl) (Nat.ble_eq_true_of_le (by show _ + 1 ≤ ((Sp.tabD i).map boolv).length; rw [List.length_map]; first | omega | (simp only [Sp.tabD_len]; omega))) (by rw [show (0 + (((48 + i : Nat) : Int)).toNat * 1) = (48 + i) from (by omega)]; exact set_map rfl)) <| .nil _ _) ?_
    refine block_normal ?_
    refine then_normal ?_
    refine aw_p1 (
      .a 1 2 <| .p (does_i (((i : Nat) : Int) + 1) (wrap_i64 (by omega) (by omega)) .i64) <| .a 1 2 <| .nil _ _) ?_
    refine then_normal ?_
    refine al_w [(0, .string (ByteArray.mk #[48, 49, 50, 51, 52, 53, 54, 55, 56, 57])), (2, .pointer (some ⟨1, 0, none⟩)), (3, .bool false), (4, .int .i64 (((i + 1) : Nat) : Int))] [(1, ⟨((Sp.tabD (i + 1)).map boolv), 96, true, 1⟩)] ?_ (hc := (by simp [closedB, valsB, valB, List.all_eq_true, List.mem_map, boolv, u8v, lds, flat1]; try (intros; simp [valsB, valB, flat1]); try decide))
    exact ih1 (i + 1) (show ((i + 1) ≤ 10) from by omega) (show 10 - (i + 1) < 10 - i from by omega)
  · have h1p : ¬ ((((i : Nat) : Int) < 10)) := by first | (simpa using h1) | (have h1q := h1; simp at h1q; omega) | (have h1q := bx2 h1; simp at h1q; omega)
    refine aw_ex 0 ?_
    refine then_exit ?_
    refine then_exit ?_
    refine block_exit ?_
    refine then_normal ?_
    have hi10 : i = 10 := by omega
    refine aw_w [(2, .pointer (some ⟨1, 0, none⟩)), (3, .bool false)] [(1, ⟨((Sp.tabD (10)).map boolv), 96, true, 1⟩)] ?_ (by subst hi10; kernel_rfl) (by subst hi10; kernel_rfl) (hc := (by simp [closedB, valsB, valB, List.all_eq_true, List.mem_map, boolv, u8v, lds, flat1]; try (intros; simp [valsB, valB, flat1]); try decide))
    refine aw_p 15 (
      .p (does_load (t := 96) (x := .tmp 2) (k := 1) (off := 0) (b := ⟨((Sp.tabD (10)).map boolv), 96, true, 1⟩) (v := .agg ((Sp.tabD (10)).map boolv).toArray) (by kernel_rfl) (by kernel_rfl) (by kernel_rfl) (by kernel_rfl)) <|
      .p (does_store (t := 96) (x := .tmp 2) (y := .tmp 20) (k := 1) (off := 0) (b := ⟨((Sp.tabD (10)).map boolv), 96, true, 1⟩) (v := .agg ((Sp.tabD (10)).map boolv).toArray) (cells := ((Sp.tabD (10)).map boolv)) (by kernel_rfl) (by kernel_rfl) (by kernel_rfl) (by kernel_rfl) (by kernel_rfl) (by kernel_rfl) (by kernel_rfl) (by kernel_rfl) (by kernel_rfl)) <|
      .a 1 2 <| .nil _ _) ?_
    refine aw_rt ?_
    exact en_ret [.agg ((Sp.tabD (10)).map boolv).toArray, .bool true] (show (.tuple #[.agg ((Sp.tabD (10)).map boolv).toArray, .bool true] : Value) = (.tuple #[.agg ((Sp.tabD 10).map boolv).toArray, .bool true]) from (congrArg (fun z : List Value => Value.tuple z.toArray) (lcons (by rfl) (lcons rfl rfl))))

theorem contains_ok (b : UInt8) :
    AC Tryd.prog 93 1 ([.pointer (some ⟨0, 0, none⟩), .int .u8 (((b).toNat : Nat) : Int)]) [(0, ⟨((Sp.tabD 10).map boolv), 96, true, 1⟩)] (.bool (Sp.dgB b)) [(0, ⟨((Sp.tabD 10).map boolv), 96, true, 1⟩)] := by
  have hb := b.toNat_lt; have hlen := Sp.tabD_len 10
  refine ac_in Tryd.func93 (fun w0 W pin => ?_)
  refine aw_p 3 (
    .a 1 1 <| .nil _ _) ?_
  refine aw_p 7 (
    .a 3 1 <| .p (does_indexArr (t := 96) (x := .tmp 7) (y := .tmp 6) (k := 0) (off := 0) (n := 256) (z := 1) (kd := .u8) (j := (((b).toNat : Nat) : Int)) (by kernel_rfl) (by kernel_rfl) (by kernel_rfl) (by kernel_rfl) (by kernel_rfl) (by omega) (by omega)) <|
    .p (does_bool (b' := (Sp.dgB b)) (does_load (t := 4) (x := .tmp 8) (k := 0) (off := (0 + ((((b).toNat : Nat) : Int)).toNat * 1)) (b := ⟨((Sp.tabD 10).map boolv), 96, true, 1⟩) (v := .bool ((Sp.tabD 10).getD ((b).toNat) false)) (by kernel_rfl) (by kernel_rfl) (by kernel_rfl) (by rw [show (0 + ((((b).toNat : Nat) : Int)).toNat * 1) = ((b).toNat) from (by omega)]; exact ldV_map (f := boolv) (j := ((b).toNat)) false (by kernel_rfl) (by kernel_rfl) (by first | omega | (simp only [Sp.tabD_len]; omega)))) (Sp.tabD_dg b)) <|
    .a 1 1 <| .nil _ _) ?_
  refine aw_rt ?_
  exact en_ret [.bool (Sp.dgB b)] (by kernel_rfl)

theorem triml_ok (l : List UInt8) (hz : l.length ≤ 9223372036854775807) :
    AC Tryd.prog 79 1 ([.string (ByteArray.mk (l).toArray), .pointer (some ⟨0, 0, none⟩)]) [(0, ⟨((Sp.tabD 10).map boolv), 96, true, 1⟩)] (.string (ByteArray.mk (Sp.trL l).toArray)) [(0, ⟨((Sp.tabD 10).map boolv), 96, true, 1⟩)] := by
  refine ac_in Tryd.func79 (fun w0 W pin => ?_)
  refine aw_p 3 (
    .a 1 1 <| .nil _ _) ?_
  refine aw_sq 6 7 ?_
  refine aw_bl 0 13 ?_
  refine aw_lp 27 ?_
  refine al_w [(0, .string (ByteArray.mk (l).toArray)), (1, .pointer (some ⟨0, 0, none⟩)), (4, .string (ByteArray.mk #[]))] [(0, ⟨((Sp.tabD 10).map boolv), 96, true, 1⟩)] ?_ (hc := (by simp [closedB, valsB, valB, List.all_eq_true, List.mem_map, boolv, u8v, lds, flat1]; try (intros; simp [valsB, valB, flat1]); try decide))
  refine al_ind (fun i : List UInt8 => (fun (m : List UInt8) => mkSt 1 [(0, .string (ByteArray.mk (m).toArray)), (1, .pointer (some ⟨0, 0, none⟩)), (4, .string (ByteArray.mk #[]))] [(0, ⟨((Sp.tabD 10).map boolv), 96, true, 1⟩)]) i) (fun i : List UInt8 => (fun (m : List UInt8) => (Sp.trL m = Sp.trL l) ∧ (m.length ≤ l.length)) i) (fun i : List UInt8 => (fun (m : List UInt8) => m.length) i) (fun i hi1 ih1 => ?_) l (show (Sp.trL l = Sp.trL l) ∧ (l.length ≤ l.length) from ⟨by rfl, by omega⟩)
  obtain ⟨m, hv1⟩ : ∃ z, z = i := ⟨i, rfl⟩; subst hv1
  have hi1' : (Sp.trL m = Sp.trL l) ∧ (m.length ≤ l.length) := hi1
  obtain ⟨hm, hml⟩ := hi1'
  show AL _ _ _ (mkSt 1 [(0, .string (ByteArray.mk (m).toArray)), (1, .pointer (some ⟨0, 0, none⟩)), (4, .string (ByteArray.mk #[]))] [(0, ⟨((Sp.tabD 10).map boolv), 96, true, 1⟩)]) _
  refine al_round ?_
  refine aw_sq 54 55 ?_
  refine aw_p 109 (
    .a 1 1 <| .p (does_slen (x := .tmp 5) 9 m (by kernel_rfl) (by kernel_rfl) (by kernel_rfl) (by first | omega | (simp; done) | (simp; omega))) <| .a 1 1 <| .nil _ _) ?_
  refine aw_cd 218 219 (decide (((m.length : Nat) : Int) > 0)) (fun h1 => ?_) (fun h1 => ?_)
  · have h1p : ((((m.length : Nat) : Int) > 0)) := by first | (simpa using h1) | (have h1q := h1; simp at h1q; omega) | (have h1q := bx1 h1; simp at h1q; omega)
    obtain ⟨n, hmn⟩ : ∃ n, m.length = n + 1 := ⟨m.length - 1, by omega⟩
    refine aw_sk ?_
    refine then_normal ?_
    refine aw_bl 1 111 ?_
    refine aw_sq 222 223 ?_
    refine aw_p 445 (
      .a 2 1 <| .p (does_six (t := 9) (x := .tmp 9) (y := .const (.int .i64 0)) (k := .i64) (j := 0) m (0) (by kernel_rfl) (by kernel_rfl) (by kernel_rfl) (by kernel_rfl) (by omega) (by first | omega | (simp; done) | (simp; omega))) <|
      .p (does_callB (x := .func 93) (ars := #[.tmp 8, .tmp 10]) (ats := #[100, 5]) (g := 93) (vs := [.pointer (some ⟨0, 0, none⟩), .int .u8 (((m.getD (0) 0).toNat : Nat) : Int)]) (m := 1) (r := 0) (firsts := #[]) (caps := #[]) (args0 := [.pointer (some ⟨0, 0, none⟩), .int .u8 (((m.getD (0) 0).toNat : Nat) : Int)]) (pre0 := [(0, ⟨((Sp.tabD 10).map boolv), 96, true, 1⟩)]) (post0 := [(0, ⟨((Sp.tabD 10).map boolv), 96, true, 1⟩)]) (pre := [(0, ⟨((Sp.tabD 10).map boolv), 96, true, 1⟩)]) (post := [(0, ⟨((Sp.tabD 10).map boolv), 96, true, 1⟩)]) (v0 := .bool (Sp.dgB (m.getD (0) 0))) (v := .bool (Sp.dgB (m.getD (0) 0))) [0] (by kernel_rfl) (by kernel_rfl) (by kernel_rfl) (by kernel_rfl) (contains_ok (m.getD (0) 0)) (.cons (.ptr _ _ (by decide)) (.cons (.flatB (by kernel_rfl)) .nil)) ⟨rfl, ⟨rfl, rfl, rfl, (.flats (flats_map (fun _ => rfl) _))⟩, trivial⟩ (by kernel_rfl) (by kernel_rfl) (by kernel_rfl) ⟨rfl, ⟨rfl, rfl, rfl, (.flats (flats_map (fun _ => rfl) _))⟩, trivial⟩ (.flatB (by kernel_rfl))) <|
      .a 1 1 <| .nil _ _) ?_
    refine aw_cd 890 891 (!(Sp.dgB (m.getD (0) 0))) (fun h2 => ?_) (fun h2 => ?_)
    · have hd : Sp.dgB (m.getD 0 0) = false := (by simpa using h2)
      refine aw_ex 0 ?_
      refine then_exit ?_
      refine block_other (by decide) ?_
      refine then_exit ?_
      refine block_exit ?_
      refine then_normal ?_
      refine aw_p 15 (
        .a 2 1 <| .nil _ _) ?_
      refine aw_rt ?_
      exact en_ret [.string (ByteArray.mk (m).toArray)] (show (.string (ByteArray.mk (m).toArray) : Value) = (.string (ByteArray.mk (Sp.trL l).toArray)) from (congrArg (fun z : List UInt8 => Value.string (ByteArray.mk z.toArray)) (show m = (Sp.trL l) from by (first | (rw [← hm, hm0]; rfl) | (rw [← hm]; exact (Sp.trL_stop (by omega) hd).symm)))))
    · have hd : Sp.dgB (m.getD 0 0) = true := (by simpa using h2)
      refine aw_sk ?_
      refine then_normal ?_
      refine aw_p1 (
        .a 1 1 <| .p (does_sfrom (t := 9) (x := .tmp 13) (y := .const (.int .i64 1)) (k := .i64) (j := 1) m (1) (by kernel_rfl) (by kernel_rfl) (by kernel_rfl) (by kernel_rfl) (by omega) (by first | omega | (simp; done) | (simp; omega))) <| .a 1 1 <| .nil _ _) ?_
      refine block_normal ?_
      refine then_normal ?_
      refine al_w [(0, .string (ByteArray.mk ((m.drop (1))).toArray)), (1, .pointer (some ⟨0, 0, none⟩)), (4, .string (ByteArray.mk #[]))] [(0, ⟨((Sp.tabD 10).map boolv), 96, true, 1⟩)] ?_ (hc := (by simp [closedB, valsB, valB, List.all_eq_true, List.mem_map, boolv, u8v, lds, flat1]; try (intros; simp [valsB, valB, flat1]); try decide))
      exact ih1 (m.drop (1)) (show (Sp.trL (m.drop (1)) = Sp.trL l) ∧ ((m.drop (1)).length ≤ l.length) from ⟨by (rw [← hm]; exact Sp.trL_dig (by omega) hd), by (simp; omega)⟩) (show (m.drop (1)).length < m.length from by (simp; omega))
  · have h1p : ¬ ((((m.length : Nat) : Int) > 0)) := by first | (simpa using h1) | (have h1q := h1; simp at h1q; omega) | (have h1q := bx2 h1; simp at h1q; omega)
    have hm0 : m = [] := List.length_eq_zero_iff.1 (by omega)
    refine aw_ex 0 ?_
    refine then_exit ?_
    refine then_exit ?_
    refine block_exit ?_
    refine then_normal ?_
    refine aw_p 15 (
      .a 2 1 <| .nil _ _) ?_
    refine aw_rt ?_
    exact en_ret [.string (ByteArray.mk (m).toArray)] (show (.string (ByteArray.mk (m).toArray) : Value) = (.string (ByteArray.mk (Sp.trL l).toArray)) from (congrArg (fun z : List UInt8 => Value.string (ByteArray.mk z.toArray)) (show m = (Sp.trL l) from by (first | (rw [← hm, hm0]; rfl) | (rw [← hm]; exact (Sp.trL_stop (by omega) hd).symm)))))

theorem trimr_ok (l : List UInt8) (hz : l.length ≤ 9223372036854775807) :
    AC Tryd.prog 80 1 ([.string (ByteArray.mk (l).toArray), .pointer (some ⟨0, 0, none⟩)]) [(0, ⟨((Sp.tabD 10).map boolv), 96, true, 1⟩)] (.string (ByteArray.mk (Sp.trR l).toArray)) [(0, ⟨((Sp.tabD 10).map boolv), 96, true, 1⟩)] := by
  refine ac_in Tryd.func80 (fun w0 W pin => ?_)
  refine aw_p 3 (
    .a 1 1 <| .nil _ _) ?_
  refine aw_sq 6 7 ?_
  refine aw_bl 0 13 ?_
  refine aw_lp 27 ?_
  refine al_w [(0, .string (ByteArray.mk (l).toArray)), (1, .pointer (some ⟨0, 0, none⟩)), (4, .string (ByteArray.mk #[]))] [(0, ⟨((Sp.tabD 10).map boolv), 96, true, 1⟩)] ?_ (hc := (by simp [closedB, valsB, valB, List.all_eq_true, List.mem_map, boolv, u8v, lds, flat1]; try (intros; simp [valsB, valB, flat1]); try decide))
  refine al_ind (fun i : List UInt8 => (fun (m : List UInt8) => mkSt 1 [(0, .string (ByteArray.mk (m).toArray)), (1, .pointer (some ⟨0, 0, none⟩)), (4, .string (ByteArray.mk #[]))] [(0, ⟨((Sp.tabD 10).map boolv), 96, true, 1⟩)]) i) (fun i : List UInt8 => (fun (m : List UInt8) => (Sp.trR m = Sp.trR l) ∧ (m.length ≤ l.length)) i) (fun i : List UInt8 => (fun (m : List UInt8) => m.length) i) (fun i hi1 ih1 => ?_) l (show (Sp.trR l = Sp.trR l) ∧ (l.length ≤ l.length) from ⟨by rfl, by omega⟩)
  obtain ⟨m, hv1⟩ : ∃ z, z = i := ⟨i, rfl⟩; subst hv1
  have hi1' : (Sp.trR m = Sp.trR l) ∧ (m.length ≤ l.length) := hi1
  obtain ⟨hm, hml⟩ := hi1'
  show AL _ _ _ (mkSt 1 [(0, .string (ByteArray.mk (m).toArray)), (1, .pointer (some ⟨0, 0, none⟩)), (4, .string (ByteArray.mk #[]))] [(0, ⟨((Sp.tabD 10).map boolv), 96, true, 1⟩)]) _
  refine al_round ?_
  refine aw_sq 54 55 ?_
  refine aw_p 109 (
    .a 1 1 <| .p (does_slen (x := .tmp 5) 9 m (by kernel_rfl) (by kernel_rfl) (by kernel_rfl) (by first | omega | (simp; done) | (simp; omega))) <| .a 1 1 <| .nil _ _) ?_
  refine aw_cd 218 219 (decide (((m.length : Nat) : Int) > 0)) (fun h1 => ?_) (fun h1 => ?_)
  · have h1p : ((((m.length : Nat) : Int) > 0)) := by first | (simpa using h1) | (have h1q := h1; simp at h1q; omega) | (have h1q := bx1 h1; simp at h1q; omega)
    obtain ⟨n, hmn⟩ : ∃ n, m.length = n + 1 := ⟨m.length - 1, by omega⟩
    refine aw_sk ?_
    refine then_normal ?_
    refine aw_bl 1 111 ?_
    refine aw_sq 222 223 ?_
    refine aw_p 445 (
      .a 3 1 <| .p (does_slen (x := .tmp 10) 9 m (by kernel_rfl) (by kernel_rfl) (by kernel_rfl) (by first | omega | (simp; done) | (simp; omega))) <|
      .p (does_i ((n : Nat) : Int) ((show (IntKind.wrap .i64 (((m.length : Nat) : Int) - 1)) = ((n : Nat) : Int) from ((wrap_i64 (by omega) (by omega)).trans (by omega)))) .i64) <|
      .p (does_six (t := 9) (x := .tmp 9) (y := .tmp 12) (k := .i64) (j := ((n : Nat) : Int)) m n (by kernel_rfl) (by kernel_rfl) (by kernel_rfl) (by kernel_rfl) (by omega) (by first | omega | (simp; done) | (simp; omega))) <|
      .p (does_callB (x := .func 93) (ars := #[.tmp 8, .tmp 13]) (ats := #[100, 5]) (g := 93) (vs := [.pointer (some ⟨0, 0, none⟩), .int .u8 (((m.getD n 0).toNat : Nat) : Int)]) (m := 1) (r := 0) (firsts := #[]) (caps := #[]) (args0 := [.pointer (some ⟨0, 0, none⟩), .int .u8 (((m.getD n 0).toNat : Nat) : Int)]) (pre0 := [(0, ⟨((Sp.tabD 10).map boolv), 96, true, 1⟩)]) (post0 := [(0, ⟨((Sp.tabD 10).map boolv), 96, true, 1⟩)]) (pre := [(0, ⟨((Sp.tabD 10).map boolv), 96, true, 1⟩)]) (post := [(0, ⟨((Sp.tabD 10).map boolv), 96, true, 1⟩)]) (v0 := .bool (Sp.dgB (m.getD n 0))) (v := .bool (Sp.dgB (m.getD n 0))) [0] (by kernel_rfl) (by kernel_rfl) (by kernel_rfl) (by kernel_rfl) (contains_ok (m.getD n 0)) (.cons (.ptr _ _ (by decide)) (.cons (.flatB (by kernel_rfl)) .nil)) ⟨rfl, ⟨rfl, rfl, rfl, (.flats (flats_map (fun _ => rfl) _))⟩, trivial⟩ (by kernel_rfl) (by kernel_rfl) (by kernel_rfl) ⟨rfl, ⟨rfl, rfl, rfl, (.flats (flats_map (fun _ => rfl) _))⟩, trivial⟩ (.flatB (by kernel_rfl))) <|
      .a 1 1 <| .nil _ _) ?_
    refine aw_cd 890 891 (!(Sp.dgB (m.getD n 0))) (fun h2 => ?_) (fun h2 => ?_)
    · have hd : Sp.dgB (m.getD n 0) = false := (by simpa using h2)
      refine aw_ex 0 ?_
      refine then_exit ?_
      refine block_other (by decide) ?_
      refine then_exit ?_
      refine block_exit ?_
      refine then_normal ?_
      refine aw_p 15 (
        .a 2 1 <| .nil _ _) ?_
      refine aw_rt ?_
      exact en_ret [.string (ByteArray.mk (m).toArray)] (show (.string (ByteArray.mk (m).toArray) : Value) = (.string (ByteArray.mk (Sp.trR l).toArray)) from (congrArg (fun z : List UInt8 => Value.string (ByteArray.mk z.toArray)) (show m = (Sp.trR l) from by (first | (rw [← hm, hm0]; rfl) | (rw [← hm]; exact (Sp.trR_stop hmn hd).symm)))))
    · have hd : Sp.dgB (m.getD n 0) = true := (by simpa using h2)
      refine aw_sk ?_
      refine then_normal ?_
      refine aw_p1 (
        .a 2 1 <| .p (does_slen (x := .tmp 17) 9 m (by kernel_rfl) (by kernel_rfl) (by kernel_rfl) (by first | omega | (simp; done) | (simp; omega))) <|
        .p (does_i ((n : Nat) : Int) ((show (IntKind.wrap .i64 (((m.length : Nat) : Int) - 1)) = ((n : Nat) : Int) from ((wrap_i64 (by omega) (by omega)).trans (by omega)))) .i64) <|
        .p (does_sto (t := 9) (x := .tmp 16) (y := .tmp 19) (k := .i64) (j := ((n : Nat) : Int)) m n (by kernel_rfl) (by kernel_rfl) (by kernel_rfl) (by kernel_rfl) (by omega) (by first | omega | (simp; done) | (simp; omega))) <| .a 1 1 <| .nil _ _) ?_
      refine block_normal ?_
      refine then_normal ?_
      refine al_w [(0, .string (ByteArray.mk ((m.take n)).toArray)), (1, .pointer (some ⟨0, 0, none⟩)), (4, .string (ByteArray.mk #[]))] [(0, ⟨((Sp.tabD 10).map boolv), 96, true, 1⟩)] ?_ (hc := (by simp [closedB, valsB, valB, List.all_eq_true, List.mem_map, boolv, u8v, lds, flat1]; try (intros; simp [valsB, valB, flat1]); try decide))
      exact ih1 (m.take n) (show (Sp.trR (m.take n) = Sp.trR l) ∧ ((m.take n).length ≤ l.length) from ⟨by (rw [← hm]; exact Sp.trR_dig hmn hd), by (simp; omega)⟩) (show (m.take n).length < m.length from by (simp; omega))
  · have h1p : ¬ ((((m.length : Nat) : Int) > 0)) := by first | (simpa using h1) | (have h1q := h1; simp at h1q; omega) | (have h1q := bx2 h1; simp at h1q; omega)
    have hm0 : m = [] := List.length_eq_zero_iff.1 (by omega)
    refine aw_ex 0 ?_
    refine then_exit ?_
    refine then_exit ?_
    refine block_exit ?_
    refine then_normal ?_
    refine aw_p 15 (
      .a 2 1 <| .nil _ _) ?_
    refine aw_rt ?_
    exact en_ret [.string (ByteArray.mk (m).toArray)] (show (.string (ByteArray.mk (m).toArray) : Value) = (.string (ByteArray.mk (Sp.trR l).toArray)) from (congrArg (fun z : List UInt8 => Value.string (ByteArray.mk z.toArray)) (show m = (Sp.trR l) from by (first | (rw [← hm, hm0]; rfl) | (rw [← hm]; exact (Sp.trR_stop hmn hd).symm)))))

theorem trim_ok (l : List UInt8) (hz : l.length ≤ 9223372036854775807) :
    AC Tryd.prog 61 0 ([.string (ByteArray.mk (l).toArray), .string (ByteArray.mk #[48, 49, 50, 51, 52, 53, 54, 55, 56, 57])]) [] (.string (ByteArray.mk (Sp.trL (Sp.trR l)).toArray)) [] := by
  have htl := Sp.trR_le l
  refine ac_in Tryd.func61 (fun w0 W pin => ?_)
  refine aw_p 3 (
    .a 1 1 <| .nil _ _) ?_
  refine aw_sq 6 7 ?_
  rcases Bool.eq_false_or_eq_true ((l == ([] : List UInt8))) with h1 | h1
  · have h1p : (l = ([] : List UInt8)) := by first | (simpa using h1) | (have h1q := h1; simp at h1q; omega) | (have h1q := bx1 h1; simp at h1q; omega)
    have hl0 : l = [] := (by simpa using h1)
    refine aw_p 13 (
      .a 1 1 <| .p (does_bool (b' := true) (does_seq (t := 9) (t2 := 9) (x := .tmp 7) (y := .const (.string (ByteArray.mk #[]))) l ([] : List UInt8) (by kernel_rfl) (by kernel_rfl) (by kernel_rfl)) (h1)) <| .a 4 1 <| .nil _ _) ?_
    refine aw_tr 26 ?_
    refine aw_p 53 (
      .a 2 1 <| .nil _ _) ?_
    refine aw_rt ?_
    refine then_ret ?_
    exact en_ret [.string (ByteArray.mk (l).toArray)] (show (.string (ByteArray.mk (l).toArray) : Value) = (.string (ByteArray.mk (Sp.trL (Sp.trR l)).toArray)) from (congrArg (fun z : List UInt8 => Value.string (ByteArray.mk z.toArray)) (show l = (Sp.trL (Sp.trR l)) from by (first | rfl | (rw [hl0]; rfl)))))
  · have h1p : ¬ (l = ([] : List UInt8)) := by first | (simpa using h1) | (have h1q := h1; simp at h1q; omega) | (have h1q := bx2 h1; simp at h1q; omega)
    have hl0 : ¬ l = [] := (by simpa using h1)
    refine aw_p 13 (
      .a 1 1 <| .p (does_bool (b' := false) (does_seq (t := 9) (t2 := 9) (x := .tmp 7) (y := .const (.string (ByteArray.mk #[]))) l ([] : List UInt8) (by kernel_rfl) (by kernel_rfl) (by kernel_rfl)) (h1)) <| .a 2 1 <|
      .p (does_pure (v := .bool false) (by kernel_rfl) (fun w => by kernel_rfl) (by kernel_rfl)) <| .a 1 1 <| .nil _ _) ?_
    refine aw_fl 27 ?_
    refine aw_sk ?_
    refine then_normal ?_
    refine aw_sq 14 15 ?_
    refine aw_p 29 (
      .a 1 1 <| .p (does_pure (v := .int .i64 10) (by kernel_rfl) (fun w => by kernel_rfl) (by kernel_rfl)) <| .a 6 1 <| .nil _ _) ?_
    refine aw_fl 59 ?_
    refine aw_sk ?_
    refine then_normal ?_
    refine aw_sq 30 31 ?_
    refine aw_p 61 (
      .a 1 1 <| .p (does_c (asciiset_ok)) <| .a 3 1 <| .p (does_alloc (t := 96) (k := 1) (v := .agg ((List.replicate 256 false).map boolv).toArray) (cells := ((List.replicate 256 false).map boolv)) (st := 1) (by kernel_rfl) (by kernel_rfl) (by kernel_rfl) (by kernel_rfl) (by kernel_rfl)) <|
      .p (does_store (t := 96) (x := .tmp 5) (y := .tmp 32) (k := 1) (off := 0) (b := ⟨((List.replicate 256 false).map boolv), 96, true, 1⟩) (v := .agg ((Sp.tabD 10).map boolv).toArray) (cells := ((Sp.tabD 10).map boolv)) (by kernel_rfl) (by kernel_rfl) (by kernel_rfl) (by kernel_rfl) (by kernel_rfl) (by kernel_rfl) (by kernel_rfl) (by kernel_rfl) (by kernel_rfl)) <|
      .a 1 2 <| .nil _ _) ?_
    refine aw_p 123 (
      .a 1 2 <| .nil _ _) ?_
    refine aw_tr 246 ?_
    refine aw_p 493 (
      .a 1 2 <|
      .p (does_callB (x := .func 80) (ars := #[.tmp 35, .tmp 5]) (ats := #[9, 100]) (g := 80) (vs := [.string (ByteArray.mk (l).toArray), .pointer (some ⟨1, 0, none⟩)]) (m := 1) (r := 0) (firsts := #[]) (caps := #[]) (args0 := [.string (ByteArray.mk (l).toArray), .pointer (some ⟨0, 0, none⟩)]) (pre0 := [(0, ⟨((Sp.tabD 10).map boolv), 96, true, 1⟩)]) (post0 := [(0, ⟨((Sp.tabD 10).map boolv), 96, true, 1⟩)]) (pre := [(1, ⟨((Sp.tabD 10).map boolv), 96, true, 1⟩)]) (post := [(1, ⟨((Sp.tabD 10).map boolv), 96, true, 1⟩)]) (v0 := .string (ByteArray.mk (Sp.trR l).toArray)) (v := .string (ByteArray.mk (Sp.trR l).toArray)) [1] (by kernel_rfl) (by kernel_rfl) (by kernel_rfl) (by kernel_rfl) (trimr_ok l (by first | omega | (simp; done) | (simp; omega))) (.cons (.flatB (by kernel_rfl)) (.cons (.ptr _ _ (by decide)) .nil)) ⟨rfl, ⟨rfl, rfl, rfl, (.flats (flats_map (fun _ => rfl) _))⟩, trivial⟩ (by kernel_rfl) (by kernel_rfl) (by kernel_rfl) ⟨rfl, ⟨rfl, rfl, rfl, (.flats (flats_map (fun _ => rfl) _))⟩, trivial⟩ (.flatB (by kernel_rfl))) <|
      .p (does_callB (x := .func 79) (ars := #[.tmp 36, .tmp 5]) (ats := #[9, 100]) (g := 79) (vs := [.string (ByteArray.mk (Sp.trR l).toArray), .pointer (some ⟨1, 0, none⟩)]) (m := 1) (r := 0) (firsts := #[]) (caps := #[]) (args0 := [.string (ByteArray.mk (Sp.trR l).toArray), .pointer (some ⟨0, 0, none⟩)]) (pre0 := [(0, ⟨((Sp.tabD 10).map boolv), 96, true, 1⟩)]) (post0 := [(0, ⟨((Sp.tabD 10).map boolv), 96, true, 1⟩)]) (pre := [(1, ⟨((Sp.tabD 10).map boolv), 96, true, 1⟩)]) (post := [(1, ⟨((Sp.tabD 10).map boolv), 96, true, 1⟩)]) (v0 := .string (ByteArray.mk (Sp.trL (Sp.trR l)).toArray)) (v := .string (ByteArray.mk (Sp.trL (Sp.trR l)).toArray)) [1] (by kernel_rfl) (by kernel_rfl) (by kernel_rfl) (by kernel_rfl) (triml_ok (Sp.trR l) (by first | omega | (simp; done) | (simp; omega))) (.cons (.flatB (by kernel_rfl)) (.cons (.ptr _ _ (by decide)) .nil)) ⟨rfl, ⟨rfl, rfl, rfl, (.flats (flats_map (fun _ => rfl) _))⟩, trivial⟩ (by kernel_rfl) (by kernel_rfl) (by kernel_rfl) ⟨rfl, ⟨rfl, rfl, rfl, (.flats (flats_map (fun _ => rfl) _))⟩, trivial⟩ (.flatB (by kernel_rfl))) <|
      .a 1 2 <| .nil _ _) ?_
    refine aw_rt ?_
    refine then_ret ?_
    exact en_ret [.string (ByteArray.mk (Sp.trL (Sp.trR l)).toArray)] (by kernel_rfl)


end Go.Proofs.YtngmegnaohmapaaDoor.Am
