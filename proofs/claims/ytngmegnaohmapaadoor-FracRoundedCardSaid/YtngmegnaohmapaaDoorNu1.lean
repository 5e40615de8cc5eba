/-
  The walks of the texts of numbers.
-/
import Derived.Test.YtngmegnaohmapaaDoorProg
import Derived.Test.YtngmegnaohmapaaDoorAm16
import Derived.Test.YtngmegnaohmapaaDoorSt1
import Derived.Test.YtngmegnaohmapaaDoorTx3
import Derived.Test.YtngmegnaohmapaaDoorLn2
namespace Go.Proofs.YtngmegnaohmapaaDoor.Am
open Go Go.Proofs
set_option maxRecDepth 100000
set_option maxHeartbeats 4000000
set_option linter.unusedVariables false
set_option linter.unusedSimpArgs false

theorem decimal_ok (n : Int) (z0 : -13479973333575319897333507543509815336818572211270286240551805124608 < n) (z1 : n < 13479973333575319897333507543509815336818572211270286240551805124608) :
    AC Tryd.prog 7 0 ([lval n]) [] (.string (ByteArray.mk (Sp.numT n).toArray)) [] := by
  have hsg := Sp.sgn_cases n
  refine ac_in Tryd.func7 (fun w0 W pin => ?_)
  refine aw_p 3 (
    .a 2 1 <| .nil _ _) ?_
  refine aw_p 7 (
    .a 1 2 <| .p (does_c (lsize_ok n (by omega) (by omega))) <| .a 3 2 <| .nil _ _) ?_
  refine aw_sq 14 15 ?_
  refine aw_bl 0 29 ?_
  refine aw_lp 59 ?_
  refine al_w [(1, .pointer (some ⟨1, 0, none⟩)), (2, .string (ByteArray.mk #[])), (3, .string (ByteArray.mk (([])).toArray)), (4, .pointer (some ⟨2, 0, none⟩))] [(1, ⟨(lds n), 27, true, 1⟩), (2, ⟨(lds (n.natAbs : Int)), 27, true, 1⟩)] ?_
  refine al_ind (fun i : Int × List UInt8 => (fun (V : Int) (s : List UInt8) => mkSt 0 [(1, .pointer (some ⟨1, 0, none⟩)), (2, .string (ByteArray.mk #[])), (3, .string (ByteArray.mk (s).toArray)), (4, .pointer (some ⟨2, 0, none⟩))] [(1, ⟨(lds n), 27, true, 1⟩), (2, ⟨(lds V), 27, true, 1⟩)]) i.1 i.2) (fun i : Int × List UInt8 => (fun (V : Int) (s : List UInt8) => (0 ≤ V ∧ V ≤ (n.natAbs : Int)) ∧ (Sp.digs V.toNat ++ s = Sp.digs n.natAbs)) i.1 i.2) (fun i : Int × List UInt8 => (fun (V : Int) (s : List UInt8) => V.toNat) i.1 i.2) (fun i hi1 ih1 => ?_) ((n.natAbs : Int), ([])) (show (0 ≤ (n.natAbs : Int) ∧ (n.natAbs : Int) ≤ (n.natAbs : Int)) ∧ (Sp.digs (n.natAbs : Int).toNat ++ ([]) = Sp.digs n.natAbs) from ⟨by omega, by (rw [List.append_nil, Int.toNat_natCast])⟩)
  obtain ⟨V, s⟩ := i
  have hi1' : (0 ≤ V ∧ V ≤ (n.natAbs : Int)) ∧ (Sp.digs V.toNat ++ s = Sp.digs n.natAbs) := hi1
  obtain ⟨hV, hs⟩ := hi1'
  show AL _ _ _ (mkSt 0 [(1, .pointer (some ⟨1, 0, none⟩)), (2, .string (ByteArray.mk #[])), (3, .string (ByteArray.mk (s).toArray)), (4, .pointer (some ⟨2, 0, none⟩))] [(1, ⟨(lds n), 27, true, 1⟩), (2, ⟨(lds V), 27, true, 1⟩)]) _
  have hsl : s.length ≤ 68 := (by have q := congrArg List.length hs; have q2 := Sp.digs_len 68 n.natAbs (by simp only [Nat.reducePow]; omega); rw [List.length_append] at q; omega)
  have r0 := Sp.rm10_bd V 0; have g0 := Sp.dgt_bd V 0
  have r1 := Sp.rm10_bd V 1; have g1 := Sp.dgt_bd V 1
  have r2 := Sp.rm10_bd V 2; have g2 := Sp.dgt_bd V 2
  have r3 := Sp.rm10_bd V 3; have g3 := Sp.dgt_bd V 3
  have r4 := Sp.rm10_bd V 4; have g4 := Sp.dgt_bd V 4
  have r5 := Sp.rm10_bd V 5; have g5 := Sp.dgt_bd V 5
  have r6 := Sp.rm10_bd V 6; have g6 := Sp.dgt_bd V 6
  have r7 := Sp.rm10_bd V 7; have g7 := Sp.dgt_bd V 7
  refine al_round ?_
  refine aw_sq 118 119 ?_
  refine aw_p 237 (
    .a 2 3 <| .p (does_e (decide (V ≠ 0)) ((show (!(((Sp.dgt V 0) == 0) && (((Sp.dgt V 1) == 0) && (((Sp.dgt V 2) == 0) && (((Sp.dgt V 3) == 0) && (((Sp.dgt V 4) == 0) && (((Sp.dgt V 5) == 0) && (((Sp.dgt V 6) == 0) && true)))))))) = (decide (V ≠ 0)) from Sp.nz_dig (by omega) (by omega)))) <| .nil _ _) ?_
  refine aw_cd 474 475 (decide (V ≠ 0)) (fun h1 => ?_) (fun h1 => ?_)
  · have h1p : ((V ≠ 0)) := by first | (simpa using h1) | (have h1q := h1; simp at h1q; omega) | (have h1q := bx1 h1; simp at h1q; omega)
    refine aw_sk ?_
    refine then_normal ?_
    refine aw_bl 1 239 ?_
    refine aw_p 479 (
      .p (does_i (Sp.rm10 V 7) ((show 0 = (Sp.rm10 V 7) from (Sp.rm10_top (by omega) (by omega)).symm)) .u64) <| .nil _ _) ?_
    refine aw_sq 958 959 ?_
    refine aw_p 1917 (
      .a 1 3 <| .nil _ _) ?_
    refine aw_bl 2 3835 ?_
    refine aw_lp 7671 ?_
    refine al_round ?_
    refine aw_sq 15342 15343 ?_
    refine aw_p 30685 (
      .a 2 3 <| .nil _ _) ?_
    refine aw_tr 61370 ?_
    refine aw_sk ?_
    refine then_normal ?_
    refine aw_sq 30686 30687 ?_
    refine aw_bl 3 61373 ?_
    refine aw_p 122747 (
      .a 1 3 <| .p (does_i ((Sp.rm10 V 7) * 4294967296) (wrap_u64 (by omega) (by omega)) .u64) <| .a 3 3 <| .p (does_i (((Sp.rm10 V 7) * 4294967296) + (Sp.dgt V 6)) (wrap_u64 (by omega) (by omega)) .u64) <| .a 1 3 <| .nil _ _) ?_
    refine aw_p 245495 (
      .a 2 3 <| .p (does_i (Sp.dgt (V / 10) 6) ((Sp.uquo (show 0 ≤ ((Sp.rm10 V 7) * 4294967296) + (Sp.dgt V 6) from by omega) (show ((Sp.rm10 V 7) * 4294967296) + (Sp.dgt V 6) ≤ 18446744073709551615 from by omega) (by decide)).trans (Sp.long_q V 6)) .u64) <| .a 2 3 <| .nil _ _) ?_
    refine aw_p1 (
      .a 1 3 <| .p (does_i (Sp.rm10 V 6) ((Sp.umod (show 0 ≤ ((Sp.rm10 V 7) * 4294967296) + (Sp.dgt V 6) from by omega)).trans (Sp.long_r V 6)) .u64) <| .a 1 3 <| .nil _ _) ?_
    refine block_normal ?_
    refine then_normal ?_
    refine aw_p1 (
      .a 3 3 <| .nil _ _) ?_
    refine then_normal ?_
    refine al_round ?_
    refine aw_sq 15342 15343 ?_
    refine aw_p 30685 (
      .a 2 3 <| .nil _ _) ?_
    refine aw_tr 61370 ?_
    refine aw_sk ?_
    refine then_normal ?_
    refine aw_sq 30686 30687 ?_
    refine aw_bl 3 61373 ?_
    refine aw_p 122747 (
      .a 1 3 <| .p (does_i ((Sp.rm10 V 6) * 4294967296) (wrap_u64 (by omega) (by omega)) .u64) <| .a 3 3 <| .p (does_i (((Sp.rm10 V 6) * 4294967296) + (Sp.dgt V 5)) (wrap_u64 (by omega) (by omega)) .u64) <| .a 1 3 <| .nil _ _) ?_
    refine aw_p 245495 (
      .a 2 3 <| .p (does_i (Sp.dgt (V / 10) 5) ((Sp.uquo (show 0 ≤ ((Sp.rm10 V 6) * 4294967296) + (Sp.dgt V 5) from by omega) (show ((Sp.rm10 V 6) * 4294967296) + (Sp.dgt V 5) ≤ 18446744073709551615 from by omega) (by decide)).trans (Sp.long_q V 5)) .u64) <| .a 2 3 <| .nil _ _) ?_
    refine aw_p1 (
      .a 1 3 <| .p (does_i (Sp.rm10 V 5) ((Sp.umod (show 0 ≤ ((Sp.rm10 V 6) * 4294967296) + (Sp.dgt V 5) from by omega)).trans (Sp.long_r V 5)) .u64) <| .a 1 3 <| .nil _ _) ?_
    refine block_normal ?_
    refine then_normal ?_
    refine aw_p1 (
      .a 3 3 <| .nil _ _) ?_
    refine then_normal ?_
    refine al_round ?_
    refine aw_sq 15342 15343 ?_
    refine aw_p 30685 (
      .a 2 3 <| .nil _ _) ?_
    refine aw_tr 61370 ?_
    refine aw_sk ?_
    refine then_normal ?_
    refine aw_sq 30686 30687 ?_
    refine aw_bl 3 61373 ?_
    refine aw_p 122747 (
      .a 1 3 <| .p (does_i ((Sp.rm10 V 5) * 4294967296) (wrap_u64 (by omega) (by omega)) .u64) <| .a 3 3 <| .p (does_i (((Sp.rm10 V 5) * 4294967296) + (Sp.dgt V 4)) (wrap_u64 (by omega) (by omega)) .u64) <| .a 1 3 <| .nil _ _) ?_
    refine aw_p 245495 (
      .a 2 3 <| .p (does_i (Sp.dgt (V / 10) 4) ((Sp.uquo (show 0 ≤ ((Sp.rm10 V 5) * 4294967296) + (Sp.dgt V 4) from by omega) (show ((Sp.rm10 V 5) * 4294967296) + (Sp.dgt V 4) ≤ 18446744073709551615 from by omega) (by decide)).trans (Sp.long_q V 4)) .u64) <| .a 2 3 <| .nil _ _) ?_
    refine aw_p1 (
      .a 1 3 <| .p (does_i (Sp.rm10 V 4) ((Sp.umod (show 0 ≤ ((Sp.rm10 V 5) * 4294967296) + (Sp.dgt V 4) from by omega)).trans (Sp.long_r V 4)) .u64) <| .a 1 3 <| .nil _ _) ?_
    refine block_normal ?_
    refine then_normal ?_
    refine aw_p1 (
      .a 3 3 <| .nil _ _) ?_
    refine then_normal ?_
    refine al_round ?_
    refine aw_sq 15342 15343 ?_
    refine aw_p 30685 (
      .a 2 3 <| .nil _ _) ?_
    refine aw_tr 61370 ?_
    refine aw_sk ?_
    refine then_normal ?_
    refine aw_sq 30686 30687 ?_
    refine aw_bl 3 61373 ?_
    refine aw_p 122747 (
      .a 1 3 <| .p (does_i ((Sp.rm10 V 4) * 4294967296) (wrap_u64 (by omega) (by omega)) .u64) <| .a 3 3 <| .p (does_i (((Sp.rm10 V 4) * 4294967296) + (Sp.dgt V 3)) (wrap_u64 (by omega) (by omega)) .u64) <| .a 1 3 <| .nil _ _) ?_
    refine aw_p 245495 (
      .a 2 3 <| .p (does_i (Sp.dgt (V / 10) 3) ((Sp.uquo (show 0 ≤ ((Sp.rm10 V 4) * 4294967296) + (Sp.dgt V 3) from by omega) (show ((Sp.rm10 V 4) * 4294967296) + (Sp.dgt V 3) ≤ 18446744073709551615 from by omega) (by decide)).trans (Sp.long_q V 3)) .u64) <| .a 2 3 <| .nil _ _) ?_
    refine aw_p1 (
      .a 1 3 <| .p (does_i (Sp.rm10 V 3) ((Sp.umod (show 0 ≤ ((Sp.rm10 V 4) * 4294967296) + (Sp.dgt V 3) from by omega)).trans (Sp.long_r V 3)) .u64) <| .a 1 3 <| .nil _ _) ?_
    refine block_normal ?_
    refine then_normal ?_
    refine aw_p1 (
      .a 3 3 <| .nil _ _) ?_
    refine then_normal ?_
    refine al_round ?_
    refine aw_sq 15342 15343 ?_
    refine aw_p 30685 (
      .a 2 3 <| .nil _ _) ?_
    refine aw_tr 61370 ?_
    refine aw_sk ?_
    refine then_normal ?_
    refine aw_sq 30686 30687 ?_
    refine aw_bl 3 61373 ?_
    refine aw_p 122747 (
      .a 1 3 <| .p (does_i ((Sp.rm10 V 3) * 4294967296) (wrap_u64 (by omega) (by omega)) .u64) <| .a 3 3 <| .p (does_i (((Sp.rm10 V 3) * 4294967296) + (Sp.dgt V 2)) (wrap_u64 (by omega) (by omega)) .u64) <| .a 1 3 <| .nil _ _) ?_
    refine aw_p 245495 (
      .a 2 3 <| .p (does_i (Sp.dgt (V / 10) 2) ((Sp.uquo (show 0 ≤ ((Sp.rm10 V 3) * 4294967296) + (Sp.dgt V 2) from by omega) (show ((Sp.rm10 V 3) * 4294967296) + (Sp.dgt V 2) ≤ 18446744073709551615 from by omega) (by decide)).trans (Sp.long_q V 2)) .u64) <| .a 2 3 <| .nil _ _) ?_
    refine aw_p1 (
      .a 1 3 <| .p (does_i (Sp.rm10 V 2) ((Sp.umod (show 0 ≤ ((Sp.rm10 V 3) * 4294967296) + (Sp.dgt V 2) from by omega)).trans (Sp.long_r V 2)) .u64) <| .a 1 3 <| .nil _ _) ?_
    refine block_normal ?_
    refine then_normal ?_
    refine aw_p1 (
      .a 3 3 <| .nil _ _) ?_
    refine then_normal ?_
    refine al_round ?_
    refine aw_sq 15342 15343 ?_
    refine aw_p 30685 (
      .a 2 3 <| .nil _ _) ?_
    refine aw_tr 61370 ?_
    refine aw_sk ?_
    refine then_normal ?_
    refine aw_sq 30686 30687 ?_
    refine aw_bl 3 61373 ?_
    refine aw_p 122747 (
      .a 1 3 <| .p (does_i ((Sp.rm10 V 2) * 4294967296) (wrap_u64 (by omega) (by omega)) .u64) <| .a 3 3 <| .p (does_i (((Sp.rm10 V 2) * 4294967296) + (Sp.dgt V 1)) (wrap_u64 (by omega) (by omega)) .u64) <| .a 1 3 <| .nil _ _) ?_
    refine aw_p 245495 (
      .a 2 3 <| .p (does_i (Sp.dgt (V / 10) 1) ((Sp.uquo (show 0 ≤ ((Sp.rm10 V 2) * 4294967296) + (Sp.dgt V 1) from by omega) (show ((Sp.rm10 V 2) * 4294967296) + (Sp.dgt V 1) ≤ 18446744073709551615 from by omega) (by decide)).trans (Sp.long_q V 1)) .u64) <| .a 2 3 <| .nil _ _) ?_
    refine aw_p1 (
      .a 1 3 <| .p (does_i (Sp.rm10 V 1) ((Sp.umod (show 0 ≤ ((Sp.rm10 V 2) * 4294967296) + (Sp.dgt V 1) from by omega)).trans (Sp.long_r V 1)) .u64) <| .a 1 3 <| .nil _ _) ?_
    refine block_normal ?_
    refine then_normal ?_
    refine aw_p1 (
      .a 3 3 <| .nil _ _) ?_
    refine then_normal ?_
    refine al_round ?_
    refine aw_sq 15342 15343 ?_
    refine aw_p 30685 (
      .a 2 3 <| .nil _ _) ?_
    refine aw_tr 61370 ?_
    refine aw_sk ?_
    refine then_normal ?_
    refine aw_sq 30686 30687 ?_
    refine aw_bl 3 61373 ?_
    refine aw_p 122747 (
      .a 1 3 <| .p (does_i ((Sp.rm10 V 1) * 4294967296) (wrap_u64 (by omega) (by omega)) .u64) <| .a 3 3 <| .p (does_i (((Sp.rm10 V 1) * 4294967296) + (Sp.dgt V 0)) (wrap_u64 (by omega) (by omega)) .u64) <| .a 1 3 <| .nil _ _) ?_
    refine aw_p 245495 (
      .a 2 3 <| .p (does_i (Sp.dgt (V / 10) 0) ((Sp.uquo (show 0 ≤ ((Sp.rm10 V 1) * 4294967296) + (Sp.dgt V 0) from by omega) (show ((Sp.rm10 V 1) * 4294967296) + (Sp.dgt V 0) ≤ 18446744073709551615 from by omega) (by decide)).trans (Sp.long_q V 0)) .u64) <| .a 2 3 <| .nil _ _) ?_
    refine aw_p1 (
      .a 1 3 <| .p (does_i (Sp.rm10 V 0) ((Sp.umod (show 0 ≤ ((Sp.rm10 V 1) * 4294967296) + (Sp.dgt V 0) from by omega)).trans (Sp.long_r V 0)) .u64) <| .a 1 3 <| .nil _ _) ?_
    refine block_normal ?_
    refine then_normal ?_
    refine aw_p1 (
      .a 3 3 <| .nil _ _) ?_
    refine then_normal ?_
    refine al_round ?_
    refine aw_sq 15342 15343 ?_
    refine aw_p 30685 (
      .a 2 3 <| .nil _ _) ?_
    refine aw_fl 61371 ?_
    refine aw_ex 2 ?_
    refine then_exit ?_
    refine then_exit ?_
    refine block_exit ?_
    refine then_normal ?_
    refine aw_p1 (
      .a 1 3 <| .p (does_i (48 + (Sp.rm10 V 0)) (wrap_u64 (by omega) (by omega)) .u64) <| .p (does_i (48 + Sp.rm10 V 0) ((show (IntKind.wrap .i32 (48 + (Sp.rm10 V 0))) = (48 + Sp.rm10 V 0) from (by rw [IntKind.wrap_i32]; omega))) .i32) <|
      .p (does_rune (src := 21) (dst := 9) (x := .tmp 30) (k := .i32) (n := (48 + Sp.rm10 V 0)) (by kernel_rfl) (by kernel_rfl) (by kernel_rfl) (by kernel_rfl) (by omega) (by omega)) <| .a 1 3 <|
      .p (does_scat (t := 9) (t2 := 9) (x := .tmp 31) (y := .tmp 32) ([UInt8.ofNat ((48 + Sp.rm10 V 0)).toNat]) s (by kernel_rfl) (by kernel_rfl) (by kernel_rfl) (by first | omega | (simp; done) | (simp; omega))) <| .a 1 3 <| .nil _ _) ?_
    refine block_normal ?_
    refine then_normal ?_
    refine al_w [(1, .pointer (some ⟨1, 0, none⟩)), (2, .string (ByteArray.mk #[])), (3, .string (ByteArray.mk ((([UInt8.ofNat ((48 + Sp.rm10 V 0)).toNat]) ++ s)).toArray)), (4, .pointer (some ⟨2, 0, none⟩))] [(1, ⟨(lds n), 27, true, 1⟩), (2, ⟨(lds (V / 10)), 27, true, 1⟩)] ?_
    exact ih1 ((V / 10), (([UInt8.ofNat ((48 + Sp.rm10 V 0)).toNat]) ++ s)) (show (0 ≤ (V / 10) ∧ (V / 10) ≤ (n.natAbs : Int)) ∧ (Sp.digs (V / 10).toNat ++ (([UInt8.ofNat ((48 + Sp.rm10 V 0)).toNat]) ++ s) = Sp.digs n.natAbs) from ⟨by omega, by (rw [← hs, Sp.rm10_0]; exact Sp.digs_next (by omega))⟩) (show (V / 10).toNat < V.toNat from by omega)
  · have h1p : ¬ ((V ≠ 0)) := by first | (simpa using h1) | (have h1q := h1; simp at h1q; omega) | (have h1q := bx2 h1; simp at h1q; omega)
    refine aw_ex 0 ?_
    refine then_exit ?_
    refine then_exit ?_
    refine block_exit ?_
    refine then_normal ?_
    refine aw_sq 30 31 ?_
    refine aw_p 61 (
      .a 1 3 <| .p (does_c (lsign_ok n (by omega) (by omega))) <| .nil _ _) ?_
    refine aw_bl 4 123 ?_
    refine aw_p 247 (
      .a 2 3 <| .nil _ _) ?_
    refine aw_cd 494 495 ((Sp.sgn n) == 0) (fun h2 => ?_) (fun h2 => ?_)
    · have h2p : (((Sp.sgn n) = 0)) := by first | (simpa using h2) | (have h2q := h2; simp at h2q; omega) | (have h2q := bx1 h2; simp at h2q; omega)
      have hse : s = Sp.digs n.natAbs := (by rw [← hs, show V.toNat = 0 by omega, Sp.digs_zero]; rfl)
      refine aw_p 989 (
        .a 1 3 <| .nil _ _) ?_
      refine aw_rt ?_
      refine block_ret ?_
      refine then_ret ?_
      exact en_ret [.string (ByteArray.mk #[48])] (show (.string (ByteArray.mk #[48]) : Value) = (.string (ByteArray.mk (Sp.numT n).toArray)) from (congrArg (fun z : List UInt8 => Value.string (ByteArray.mk z.toArray)) (show ([48] : List UInt8) = (Sp.numT n) from by (first | exact (Sp.numT_z (by omega)).symm | exact (Sp.numT_n (by omega) hse).symm | exact (Sp.numT_p (by omega) hse).symm))))
    · have h2p : ¬ (((Sp.sgn n) = 0)) := by first | (simpa using h2) | (have h2q := h2; simp at h2q; omega) | (have h2q := bx2 h2; simp at h2q; omega)
      have hse : s = Sp.digs n.natAbs := (by rw [← hs, show V.toNat = 0 by omega, Sp.digs_zero]; rfl)
      refine aw_p 991 (
        .a 2 3 <| .nil _ _) ?_
      refine aw_cd 1982 1983 ((Sp.sgn n) == (-1)) (fun h3 => ?_) (fun h3 => ?_)
      · have h3p : (((Sp.sgn n) = (-1))) := by first | (simpa using h3) | (have h3q := h3; simp at h3q; omega) | (have h3q := bx1 h3; simp at h3q; omega)
        refine aw_p 3965 (
          .a 1 3 <| .p (does_scat (t := 9) (t2 := 9) (x := .const (.string (ByteArray.mk #[45]))) (y := .tmp 40) ([45] : List UInt8) s (by kernel_rfl) (by kernel_rfl) (by kernel_rfl) (by first | omega | (simp; done) | (simp; omega))) <| .a 1 3 <| .nil _ _) ?_
        refine aw_rt ?_
        refine block_ret ?_
        refine then_ret ?_
        exact en_ret [.string (ByteArray.mk (([45] : List UInt8) ++ s).toArray)] (show (.string (ByteArray.mk (([45] : List UInt8) ++ s).toArray) : Value) = (.string (ByteArray.mk (Sp.numT n).toArray)) from (congrArg (fun z : List UInt8 => Value.string (ByteArray.mk z.toArray)) (show (([45] : List UInt8) ++ s) = (Sp.numT n) from by (first | exact (Sp.numT_z (by omega)).symm | exact (Sp.numT_n (by omega) hse).symm | exact (Sp.numT_p (by omega) hse).symm))))
      · have h3p : ¬ (((Sp.sgn n) = (-1))) := by first | (simpa using h3) | (have h3q := h3; simp at h3q; omega) | (have h3q := bx2 h3; simp at h3q; omega)
        refine aw_sk ?_
        refine block_normal ?_
        refine then_normal ?_
        refine aw_p 63 (
          .a 2 3 <| .nil _ _) ?_
        refine aw_rt ?_
        exact en_ret [.string (ByteArray.mk (s).toArray)] (show (.string (ByteArray.mk (s).toArray) : Value) = (.string (ByteArray.mk (Sp.numT n).toArray)) from (congrArg (fun z : List UInt8 => Value.string (ByteArray.mk z.toArray)) (show s = (Sp.numT n) from by (first | exact (Sp.numT_z (by omega)).symm | exact (Sp.numT_n (by omega) hse).symm | exact (Sp.numT_p (by omega) hse).symm))))


end Go.Proofs.YtngmegnaohmapaaDoor.Am
