/-
  The walk of the law WideTexts.
-/
import Derived.Test.YtjimiomokjfmiaaDoorProg
import Derived.Test.YtjimiomokjfmiaaDoorAm16
import Derived.Test.YtjimiomokjfmiaaDoorNu2
import Derived.Test.YtjimiomokjfmiaaDoorNu3
import Derived.Test.YtjimiomokjfmiaaDoorWd5
import Derived.Test.YtjimiomokjfmiaaDoorTx3
namespace Go.Proofs.YtjimiomokjfmiaaDoor.Am
open Go Go.Proofs
set_option maxRecDepth 100000
set_option maxHeartbeats 4000000
set_option linter.unusedVariables false
set_option linter.unusedSimpArgs false

theorem wideTexts_walk (a : Int) (zla : -170141183460469231731687303715884105728 ≤ a) (zua : a < 170141183460469231731687303715884105728) (l : List UInt8) (hz : l.length ≤ 9223372036854775807) :
    AC Tryd.prog 3 0 ([.agg #[.int .i64 (Sp.wh a), .int .u64 (Sp.wl a)], .string (ByteArray.mk (l).toArray)]) [] (.bool true) [] := by
  refine ac_in Tryd.func3 (fun w0 W pin => ?_)
  refine aw_p 3 (
    .a 2 1 <| .nil _ _) ?_
  refine aw_p 7 (
    .a 1 2 <| .p (does_c (rread_ok l (by first | omega | (simp; done) | (simp; omega)))) <| .a 6 2 <| .nil _ _) ?_
  refine aw_p 15 (
    .a 1 3 <| .p (does_c (numeral_ok l (by first | omega | (simp; done) | (simp; omega)))) <| .a 6 3 <| .nil _ _) ?_
  refine aw_d 31 (
    .p (does_c (terrlaw1_wideBegun_ok)) <| .a 2 4 <| .p (does_c (wtext_ok a (by omega) (by omega))) <| .a 1 4 <| .p (does_c (lwide_ok a (by omega) (by omega))) <| .p (does_c (decimal_ok a (by omega) (by omega))) <|
    .p (does_bool (b' := true) (does_seq (t := 9) (t2 := 9) (x := .tmp 22) (y := .tmp 25) (Sp.numT a) (Sp.numT a) (by kernel_rfl) (by kernel_rfl) (by kernel_rfl)) ((show ((Sp.numT a) == (Sp.numT a)) = true from by simp))) <| .a 4 4 <|
    .p (does_b true ((show ((Sp.rdE l) == (Sp.rdE l)) = true from by simp))) <| .a 4 4 <| .p (does_c (lwd_ok (Sp.rdV l))) <| .p (does_e true ((show (((Sp.wh (Sp.rdV l)) == (Sp.wh (Sp.rdV l))) && (((Sp.wl (Sp.rdV l)) == (Sp.wl (Sp.rdV l))) && true)) = true from by simp))) <| .a 2 4 <| .nil _ _) ?_
  refine aw_w [(4, .bool true)] [] ?_
  refine aw_rt ?_
  exact en_ret [.bool true] (by kernel_rfl)

theorem wideTexts_law (h0 l0 : Int) (H0 : -9223372036854775808 ≤ h0 ∧ h0 ≤ 9223372036854775807) (L0 : 0 ≤ l0 ∧ l0 ≤ 18446744073709551615) (s0 : List UInt8) (Z0 : s0.length ≤ 9223372036854775807) : AC Tryd.prog 3 0 [.agg #[.int .i64 h0, .int .u64 l0], .string (ByteArray.mk s0.toArray)] [] (.bool true) [] := by
  obtain ⟨p0, q0, r0, z0⟩ := Sp.wh_raw H0 L0
  have h := wideTexts_walk (h0 * 18446744073709551616 + l0) r0 z0 s0 Z0
  rw [p0, q0] at h
  exact h

end Go.Proofs.YtjimiomokjfmiaaDoor.Am
