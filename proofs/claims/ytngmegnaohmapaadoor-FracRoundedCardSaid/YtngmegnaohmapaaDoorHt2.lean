/-
  The text of an integer.
-/
import Derived.Test.YtngmegnaohmapaaDoorProg
import Derived.Test.YtngmegnaohmapaaDoorAm16
import Derived.Test.YtngmegnaohmapaaDoorHt
import Derived.Test.YtngmegnaohmapaaDoorAm27
import Derived.Test.YtngmegnaohmapaaDoorTx4
namespace Go.Proofs.YtngmegnaohmapaaDoor.Am
open Go Go.Proofs
set_option maxRecDepth 100000
set_option maxHeartbeats 4000000
set_option linter.unusedVariables false
set_option linter.unusedSimpArgs false

theorem itoa_ok (n : Int) (zln : -9223372036854775808 ≤ n) (zun : n ≤ 9223372036854775807) : ∀ w0, TabAt Tryd.prog "internal/strconv.uint64pow10" .u64 Lib.pow10Tab w0 → ACw Tryd.prog w0 32 0 [.int .i64 n] [] (.string (ByteArray.mk (Sp.numT n).toArray)) [] := fun w0 hx => acw_flat rfl rfl (by
  have h := Any.strconv_Itoa Tryd.itoa n zln zun w0 hx
  rw [Sp.itoa_num] at h
  exact h.mono fun e w' he => ⟨he.1, by obtain ⟨_, k, os, rfl⟩ := he; exact Lib.below_grow _ _ (Nat.le_refl _) k os⟩)

end Go.Proofs.YtngmegnaohmapaaDoor.Am
