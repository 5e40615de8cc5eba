/-
  The walks of the reading of fractions, first part.
-/
import Derived.Test.YtngmegnaohmapaaDoorProg
import Derived.Test.YtngmegnaohmapaaDoorAm16
import Derived.Test.YtngmegnaohmapaaDoorSt1
import Derived.Test.YtngmegnaohmapaaDoorTx4
import Derived.Test.YtngmegnaohmapaaDoorNu2
namespace Go.Proofs.YtngmegnaohmapaaDoor.Am
open Go Go.Proofs
set_option maxRecDepth 100000
set_option maxHeartbeats 4000000
set_option linter.unusedVariables false
set_option linter.unusedSimpArgs false

theorem run_ix47 (l : List UInt8) : ∀ w, (callFunc 91 [.string (ByteArray.mk l.toArray), .int .u8 47].toArray).run Tryd.prog w = .ok (.value (.int .i64 (Sp.ix47 l))) w := fun w => by
  rw [run_callFunc_extern Tryd.func91 (by kernel_rfl) (by kernel_rfl) (by kernel_rfl) (show Extern.find Tryd.f91 = some Extern.BytealgIndexByte.indexByte by kernel_rfl)]
  have := Lib.run_indexByteString (P := Tryd.prog) (ByteArray.mk l.toArray) 47 w
  rw [show ((47 : Int).toNat.toUInt8) = 47 from rfl, show (ByteArray.mk l.toArray).data.toList = l from rfl, Sp.ix_index] at this
  simp only [this, Result.andThen]

end Go.Proofs.YtngmegnaohmapaaDoor.Am
