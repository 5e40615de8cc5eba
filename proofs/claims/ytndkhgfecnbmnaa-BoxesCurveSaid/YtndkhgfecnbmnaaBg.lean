/-
  Growing small boxes, gaps.
-/
import Derived.Test.YtndkhgfecnbmnaaProg
import Derived.Test.YtndkhgfecnbmnaaAm16
import Derived.Test.YtndkhgfecnbmnaaBh
import Derived.Test.YtndkhgfecnbmnaaBs1
namespace Go.Proofs.Ytndkhgfecnbmnaa.Am
open Go Go.Proofs
set_option maxRecDepth 100000
set_option maxHeartbeats 4000000
set_option linter.unusedVariables false
set_option linter.unusedSimpArgs false

theorem grow_in (a b c d k : Int) (al : -900 ≤ a) (au : a ≤ 900) (bl : -900 ≤ b) (bu : b ≤ 900) (cl : -900 ≤ c) (cu : c ≤ 900) (dl : -900 ≤ d) (du : d ≤ 900) (kl : -30 ≤ k) (ku : k ≤ 30) : AC Try.prog 48 0 [.agg #[.int .i64 a, .int .i64 b, .int .i64 c, .int .i64 d], .int .i64 k] [] (.agg #[.int .i64 (a - k), .int .i64 (b - k), .int .i64 (c + k), .int .i64 (d + k)]) [] := by
  have h := grow_ok a b c d k
  rw [Sp.grow_k kl ku, Sp.lim_small (x := a) (by omega) (by omega), Sp.lim_small (x := b) (by omega) (by omega), Sp.lim_small (x := c) (by omega) (by omega), Sp.lim_small (x := d) (by omega) (by omega)] at h
  rw [Sp.lim_small (x := a - k) (by omega) (by omega), Sp.lim_small (x := b - k) (by omega) (by omega), Sp.lim_small (x := c + k) (by omega) (by omega), Sp.lim_small (x := d + k) (by omega) (by omega)] at h
  exact h
theorem gap_in (lx ly hx hy ax ay : Int) (h : Sp.bok lx ly hx hy = true) (axl : -1000 ≤ ax) (axu : ax ≤ 1000) (ayl : -1000 ≤ ay) (ayu : ay ≤ 1000) : AC Try.prog 46 0 [.agg #[.int .i64 lx, .int .i64 ly, .int .i64 hx, .int .i64 hy], .agg #[.int .i64 ax, .int .i64 ay]] [] (.tuple #[.int .i64 (Sp.gapN lx ly hx hy ax ay), .int .i64 0]) [] := by
  exact gap_ok lx ly hx hy ax ay h (by rw [Sp.lim_small (x := ax) (by omega) (by omega), Sp.lim_small (x := ay) (by omega) (by omega)]; simp)

end Go.Proofs.Ytndkhgfecnbmnaa.Am
