/-
  The text of a fraction.
-/
import Derived.Test.YtngmegnaohmapaaDoorProg
import Derived.Test.YtngmegnaohmapaaDoorAm16
import Derived.Test.YtngmegnaohmapaaDoorHt2
import Derived.Test.YtngmegnaohmapaaDoorFr2
namespace Go.Proofs.YtngmegnaohmapaaDoor.Am
open Go Go.Proofs
set_option maxRecDepth 100000
set_option maxHeartbeats 4000000
set_option linter.unusedVariables false
set_option linter.unusedSimpArgs false

theorem ftext_ok (n1 d1 : Int) (zln1 : -9223372036854775808 ≤ n1) (zun1 : n1 ≤ 9223372036854775807) (zld1 : -9223372036854775808 ≤ d1) (zud1 : d1 ≤ 9223372036854775807) :
    ∀ w0, TabAt Tryd.prog "internal/strconv.uint64pow10" .u64 Lib.pow10Tab w0 → ACw Tryd.prog w0  11 0 ([.agg #[.int .i64 n1, .int .i64 d1]]) [] (.string (ByteArray.mk (Sp.frT n1 d1).toArray)) [] := by
  have fn1 := Sp.fn_bd (d := d1) zln1 zun1; have fd1 := Sp.fd_bd (n := n1) zud1; have nl1 := Sp.numT_len (x := Sp.fn n1 d1) (by omega) (by omega); have nl2 := Sp.numT_len (x := Sp.fd n1 d1) (by omega) (by omega)
  intro w0 hx0
  refine acw_in Tryd.func11 (fun W pin hW => ?_)
  have hX : ∀ w', FrameOk w0 W w' → TabAt Tryd.prog "internal/strconv.uint64pow10" .u64 Lib.pow10Tab w' := fun w' hf => tab_stays hx0 hf (fun b hb => by obtain ⟨ρ, k, b, sp, hm, _⟩ := hW b hb; exact (List.not_mem_nil hm).elim)
  refine aw_p 3 (
    .a 2 1 <| .nil _ _) ?_
  refine aw_p 7 (
    .a 1 2 <| .p (does_c (ffit_ok n1 d1 (by omega) (by omega) (by omega) (by omega))) <| .a 1 2 <| .nil _ _) ?_
  refine aw_sq 14 15 ?_
  refine aw_p 29 (
    .a 3 2 <| .nil _ _) ?_
  refine aw_cd 58 59 ((Sp.fd n1 d1) == 1) (fun h1 => ?_) (fun h1 => ?_)
  · have h1p : (((Sp.fd n1 d1) = 1)) := by first | (simpa using h1) | (have h1q := h1; simp at h1q; omega) | (have h1q := bx1 h1; simp at h1q; omega)
    refine aw_p 117 (
      .a 2 2 <| .p (does_cw (fun w' hf => itoa_ok (Sp.fn n1 d1) (by omega) (by omega) w' (hX w' hf))) <| .a 1 2 <| .nil _ _) ?_
    refine aw_rt ?_
    refine then_ret ?_
    exact en_ret [.string (ByteArray.mk (Sp.numT (Sp.fn n1 d1)).toArray)] (show (.string (ByteArray.mk (Sp.numT (Sp.fn n1 d1)).toArray) : Value) = (.string (ByteArray.mk (Sp.frT n1 d1).toArray)) from (congrArg (fun z : List UInt8 => Value.string (ByteArray.mk z.toArray)) (show (Sp.numT (Sp.fn n1 d1)) = (Sp.frT n1 d1) from by (first | exact (Sp.frT_one h1p).symm | (rw [Sp.frT_two h1p, List.append_assoc]) | (rw [Sp.frT_two h1p])))))
  · have h1p : ¬ (((Sp.fd n1 d1) = 1)) := by first | (simpa using h1) | (have h1q := h1; simp at h1q; omega) | (have h1q := bx2 h1; simp at h1q; omega)
    refine aw_sk ?_
    refine then_normal ?_
    refine aw_d 31 (
      .a 2 2 <| .p (does_cw (fun w' hf => itoa_ok (Sp.fn n1 d1) (by omega) (by omega) w' (hX w' hf))) <|
      .p (does_scat (t := 9) (t2 := 9) (x := .tmp 13) (y := .const (.string (ByteArray.mk #[47]))) (Sp.numT (Sp.fn n1 d1)) ([47] : List UInt8) (by kernel_rfl) (by kernel_rfl) (by kernel_rfl) (by first | omega | (simp; done) | (simp; omega))) <| .a 2 2 <|
      .p (does_cw (fun w' hf => itoa_ok (Sp.fd n1 d1) (by omega) (by omega) w' (hX w' hf))) <|
      .p (does_scat (t := 9) (t2 := 9) (x := .tmp 14) (y := .tmp 17) ((Sp.numT (Sp.fn n1 d1)) ++ ([47] : List UInt8)) (Sp.numT (Sp.fd n1 d1)) (by kernel_rfl) (by kernel_rfl) (by kernel_rfl) (by first | omega | (simp; done) | (simp; omega))) <| .a 1 2 <| .nil _ _) ?_
    refine aw_rt ?_
    exact en_ret [.string (ByteArray.mk (((Sp.numT (Sp.fn n1 d1)) ++ ([47] : List UInt8)) ++ (Sp.numT (Sp.fd n1 d1))).toArray)] (show (.string (ByteArray.mk (((Sp.numT (Sp.fn n1 d1)) ++ ([47] : List UInt8)) ++ (Sp.numT (Sp.fd n1 d1))).toArray) : Value) = (.string (ByteArray.mk (Sp.frT n1 d1).toArray)) from (congrArg (fun z : List UInt8 => Value.string (ByteArray.mk z.toArray)) (show (((Sp.numT (Sp.fn n1 d1)) ++ ([47] : List UInt8)) ++ (Sp.numT (Sp.fd n1 d1))) = (Sp.frT n1 d1) from by (first | exact (Sp.frT_one h1p).symm | (rw [Sp.frT_two h1p, List.append_assoc]) | (rw [Sp.frT_two h1p])))))


end Go.Proofs.YtngmegnaohmapaaDoor.Am
