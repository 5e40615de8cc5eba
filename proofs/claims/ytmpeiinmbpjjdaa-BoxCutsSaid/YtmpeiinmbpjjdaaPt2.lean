/-
  The walks of the document's own functions of points.
-/
import Derived.Test.YtmpeiinmbpjjdaaProg
import Derived.Test.YtmpeiinmbpjjdaaAm16
import Derived.Test.YtmpeiinmbpjjdaaSp6
import Derived.Test.YtmpeiinmbpjjdaaPt1
namespace Go.Proofs.Ytmpeiinmbpjjdaa.Am
open Go Go.Proofs
set_option maxRecDepth 100000
set_option maxHeartbeats 4000000
set_option linter.unusedVariables false
set_option linter.unusedSimpArgs false


end Go.Proofs.Ytmpeiinmbpjjdaa.Am
