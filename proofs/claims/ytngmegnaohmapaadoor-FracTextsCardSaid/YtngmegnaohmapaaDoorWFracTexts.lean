/-
  The walk of the law FracTexts.
-/
import Derived.Test.YtngmegnaohmapaaDoorProg
import Derived.Test.YtngmegnaohmapaaDoorAm16
import Derived.Test.YtngmegnaohmapaaDoorCu3
import Derived.Test.YtngmegnaohmapaaDoorCu4
import Derived.Test.YtngmegnaohmapaaDoorCu5
import Derived.Test.YtngmegnaohmapaaDoorFr3
namespace Go.Proofs.YtngmegnaohmapaaDoor.Am
open Go Go.Proofs
set_option maxRecDepth 100000
set_option maxHeartbeats 4000000
set_option linter.unusedVariables false
set_option linter.unusedSimpArgs false

theorem fracTexts_walk (n1 d1 : Int) (zln1 : -9223372036854775808 ≤ n1) (zun1 : n1 ≤ 9223372036854775807) (zld1 : -9223372036854775808 ≤ d1) (zud1 : d1 ≤ 9223372036854775807) (l : List UInt8) (hz : l.length ≤ 9223372036854775807) :
    ∀ w0, TabAt Tryd.prog "internal/strconv.uint64pow10" .u64 Lib.pow10Tab w0 → ACw Tryd.prog w0  3 0 ([.agg #[.int .i64 n1, .int .i64 d1], .string (ByteArray.mk (l).toArray)]) [] (.bool true) [] := by
  have fn1 := Sp.fn_bd (d := d1) zln1 zun1; have fd1 := Sp.fd_bd (n := n1) zud1; have nl1 := Sp.numT_len (x := Sp.fn n1 d1) (by omega) (by omega); have nl2 := Sp.numT_len (x := Sp.fd n1 d1) (by omega) (by omega)
  intro w0 hx0
  refine acw_in Tryd.func3 (fun W pin hW => ?_)
  have hX : ∀ w', FrameOk w0 W w' → TabAt Tryd.prog "internal/strconv.uint64pow10" .u64 Lib.pow10Tab w' := fun w' hf => tab_stays hx0 hf (fun b hb => by obtain ⟨ρ, k, b, sp, hm, _⟩ := hW b hb; exact (List.not_mem_nil hm).elim)
  refine aw_p 3 (
    .a 2 1 <| .nil _ _) ?_
  refine aw_sq 6 7 ?_
  refine aw_p 13 (
    .p (does_c (terrlaw1_fracBegun_ok)) <| .a 1 2 <| .nil _ _) ?_
  refine aw_fl 27 ?_
  refine aw_sk ?_
  refine then_normal ?_
  refine aw_p 15 (
    .a 1 2 <| .p (does_c (rpair_ok n1 d1 (by omega) (by omega) (by omega) (by omega))) <| .a 7 2 <| .nil _ _) ?_
  refine aw_p 31 (
    .a 1 4 <| .p (does_c (decimal_ok (Sp.fn n1 d1) (by omega) (by omega))) <| .a 1 4 <| .nil _ _) ?_
  refine aw_sq 62 63 ?_
  refine aw_d 125 (
    .a 1 4 <| .p (does_c (llof_ok 1 (by decide) (by decide))) <|
    .p (does_e (!(decide (Sp.fd n1 d1 = 1))) ((show (!(((Sp.dgt (Sp.fd n1 d1) 0) == (Sp.dgt 1 0)) && (((Sp.dgt (Sp.fd n1 d1) 1) == (Sp.dgt 1 1)) && (((Sp.dgt (Sp.fd n1 d1) 2) == (Sp.dgt 1 2)) && (((Sp.dgt (Sp.fd n1 d1) 3) == (Sp.dgt 1 3)) && (((Sp.dgt (Sp.fd n1 d1) 4) == (Sp.dgt 1 4)) && (((Sp.dgt (Sp.fd n1 d1) 5) == (Sp.dgt 1 5)) && (((Sp.dgt (Sp.fd n1 d1) 6) == (Sp.dgt 1 6)) && true)))))))) = (!(decide (Sp.fd n1 d1 = 1))) from (congrArg not (Sp.one_dig (by omega) (by omega)))))) <| .nil _ _) ?_
  refine aw_cd 250 251 (!(decide (Sp.fd n1 d1 = 1))) (fun h1 => ?_) (fun h1 => ?_)
  · have h1p : (¬ ((Sp.fd n1 d1 = 1))) := by first | (simpa using h1) | (have h1q := h1; simp at h1q; omega) | (have h1q := bx3 h1; simp at h1q; omega)
    have hone : ¬ Sp.fd n1 d1 = 1 := by simpa using h1
    refine aw_p1 (
      .a 2 4 <| .p (does_c (decimal_ok (Sp.fd n1 d1) (by omega) (by omega))) <|
      .p (does_scat (t := 9) (t2 := 9) (x := .const (.string (ByteArray.mk #[47]))) (y := .tmp 26) ([47] : List UInt8) (Sp.numT (Sp.fd n1 d1)) (by kernel_rfl) (by kernel_rfl) (by kernel_rfl) (by first | omega | (simp; done) | (simp; omega))) <|
      .p (does_scat (t := 9) (t2 := 9) (x := .tmp 24) (y := .tmp 27) (Sp.numT (Sp.fn n1 d1)) (([47] : List UInt8) ++ (Sp.numT (Sp.fd n1 d1))) (by kernel_rfl) (by kernel_rfl) (by kernel_rfl) (by first | omega | (simp; done) | (simp; omega))) <| .a 1 4 <| .nil _ _) ?_
    refine then_normal ?_
    refine aw_p 127 (
      .a 1 4 <| .p (does_c (fread_ok l (by first | omega | (simp; done) | (simp; omega)))) <| .a 6 4 <| .nil _ _) ?_
    refine aw_p 255 (
      .a 1 5 <| .p (does_c (fraction_ok l (by first | omega | (simp; done) | (simp; omega)))) <| .a 6 5 <| .nil _ _) ?_
    refine aw_p 511 (
      .a 1 6 <| .p (does_cw (fun w' hf => ftext_ok n1 d1 (by omega) (by omega) (by omega) (by omega) w' (hX w' hf))) <| .a 1 6 <|
      .p (does_bool (b' := true) (does_seq (t := 9) (t2 := 9) (x := .tmp 40) (y := .tmp 41) (Sp.frT n1 d1) ((Sp.numT (Sp.fn n1 d1)) ++ (([47] : List UInt8) ++ (Sp.numT (Sp.fd n1 d1)))) (by kernel_rfl) (by kernel_rfl) (by kernel_rfl)) ((show ((Sp.frT n1 d1) == ((Sp.numT (Sp.fn n1 d1)) ++ (([47] : List UInt8) ++ (Sp.numT (Sp.fd n1 d1))))) = true from (by rw [beq_iff_eq]; first | exact Sp.frT_one hone | exact Sp.frT_two hone)))) <|
      .a 5 6 <| .p (does_c (same_ok (Sp.frN l) (Sp.frM l) (Sp.frE l))) <| .a 2 6 <| .nil _ _) ?_
    refine aw_rt ?_
    exact en_ret [.bool true] (by kernel_rfl)
  · have h1p : ¬ (¬ ((Sp.fd n1 d1 = 1))) := by first | (simpa using h1) | (have h1q := h1; simp at h1q; omega) | (have h1q := bx4 h1; simp at h1q; omega)
    have hone : Sp.fd n1 d1 = 1 := by simpa using h1
    refine aw_sk ?_
    refine then_normal ?_
    refine aw_p 127 (
      .a 1 4 <| .p (does_c (fread_ok l (by first | omega | (simp; done) | (simp; omega)))) <| .a 6 4 <| .nil _ _) ?_
    refine aw_p 255 (
      .a 1 5 <| .p (does_c (fraction_ok l (by first | omega | (simp; done) | (simp; omega)))) <| .a 6 5 <| .nil _ _) ?_
    refine aw_p 511 (
      .a 1 6 <| .p (does_cw (fun w' hf => ftext_ok n1 d1 (by omega) (by omega) (by omega) (by omega) w' (hX w' hf))) <| .a 1 6 <|
      .p (does_bool (b' := true) (does_seq (t := 9) (t2 := 9) (x := .tmp 40) (y := .tmp 41) (Sp.frT n1 d1) (Sp.numT (Sp.fn n1 d1)) (by kernel_rfl) (by kernel_rfl) (by kernel_rfl)) ((show ((Sp.frT n1 d1) == (Sp.numT (Sp.fn n1 d1))) = true from (by rw [beq_iff_eq]; first | exact Sp.frT_one hone | exact Sp.frT_two hone)))) <|
      .a 5 6 <| .p (does_c (same_ok (Sp.frN l) (Sp.frM l) (Sp.frE l))) <| .a 2 6 <| .nil _ _) ?_
    refine aw_rt ?_
    exact en_ret [.bool true] (by kernel_rfl)


end Go.Proofs.YtngmegnaohmapaaDoor.Am
