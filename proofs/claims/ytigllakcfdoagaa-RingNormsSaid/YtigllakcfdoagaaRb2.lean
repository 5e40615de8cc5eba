/-
  A number below another one.
-/
import Derived.Test.YtigllakcfdoagaaProg
import Derived.Test.YtigllakcfdoagaaAm16
import Derived.Test.YtigllakcfdoagaaPt1
namespace Go.Proofs.Ytigllakcfdoagaa.Am
open Go Go.Proofs
set_option maxRecDepth 100000
set_option maxHeartbeats 4000000
set_option linter.unusedVariables false
set_option linter.unusedSimpArgs false

theorem below_nat (z : Int) (hz : Sp.In64 z) (n : Nat) (h : 0 < n) (hn : n ≤ 8) : AC Try.prog 46 0 [.int .i64 z, .int .i64 ((n : Nat) : Int)] [] (.int .i64 (((z % (n : Int)).toNat : Nat) : Int)) [] := by
  have h := below_ok z ((n : Nat) : Int) (by omega) (by omega)
  rw [Int.toNat_of_nonneg (Int.emod_nonneg _ (by omega))]
  exact h

end Go.Proofs.Ytigllakcfdoagaa.Am
