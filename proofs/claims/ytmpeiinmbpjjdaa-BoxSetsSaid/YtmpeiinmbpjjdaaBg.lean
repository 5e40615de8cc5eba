/-
  Growing small boxes.
-/
import Derived.Test.YtmpeiinmbpjjdaaProg
import Derived.Test.YtmpeiinmbpjjdaaAm16
import Derived.Test.YtmpeiinmbpjjdaaBx
import Derived.Test.YtmpeiinmbpjjdaaBs1
namespace Go.Proofs.Ytmpeiinmbpjjdaa.Am
open Go Go.Proofs
set_option maxRecDepth 100000
set_option maxHeartbeats 4000000
set_option linter.unusedVariables false
set_option linter.unusedSimpArgs false

theorem grow_in (a b c d k : Int) (al : -900 ≤ a) (au : a ≤ 900) (bl : -900 ≤ b) (bu : b ≤ 900) (cl : -900 ≤ c) (cu : c ≤ 900) (dl : -900 ≤ d) (du : d ≤ 900) (kl : -30 ≤ k) (ku : k ≤ 30) : AC Try.prog 11 0 [.agg #[.int .i64 a, .int .i64 b, .int .i64 c, .int .i64 d], .int .i64 k] [] (.agg #[.int .i64 (a - k), .int .i64 (b - k), .int .i64 (c + k), .int .i64 (d + k)]) [] := by
  have h := grow_ok a b c d k
  rw [Sp.grow_k kl ku, Sp.lim_small (x := a) (by omega) (by omega), Sp.lim_small (x := b) (by omega) (by omega), Sp.lim_small (x := c) (by omega) (by omega), Sp.lim_small (x := d) (by omega) (by omega)] at h
  rw [Sp.lim_small (x := a - k) (by omega) (by omega), Sp.lim_small (x := b - k) (by omega) (by omega), Sp.lim_small (x := c + k) (by omega) (by omega), Sp.lim_small (x := d + k) (by omega) (by omega)] at h
  exact h

end Go.Proofs.Ytmpeiinmbpjjdaa.Am
