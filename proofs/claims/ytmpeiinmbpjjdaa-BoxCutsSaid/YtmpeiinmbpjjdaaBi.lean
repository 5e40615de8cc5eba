/-
  Hits of small boxes.
-/
import Derived.Test.YtmpeiinmbpjjdaaProg
import Derived.Test.YtmpeiinmbpjjdaaAm16
import Derived.Test.YtmpeiinmbpjjdaaBh
import Derived.Test.YtmpeiinmbpjjdaaBs1
namespace Go.Proofs.Ytmpeiinmbpjjdaa.Am
open Go Go.Proofs
set_option maxRecDepth 100000
set_option maxHeartbeats 4000000
set_option linter.unusedVariables false
set_option linter.unusedSimpArgs false

theorem hit_in (lx ly hx hy ax ay cx cy : Int) (h : Sp.bok lx ly hx hy = true) (axl : -1000 ≤ ax) (axu : ax ≤ 1000) (ayl : -1000 ≤ ay) (ayu : ay ≤ 1000) (cxl : -1000 ≤ cx) (cxu : cx ≤ 1000) (cyl : -1000 ≤ cy) (cyu : cy ≤ 1000) : AC Try.prog 16 0 [.agg #[.int .i64 lx, .int .i64 ly, .int .i64 hx, .int .i64 hy], .agg #[.int .i64 ax, .int .i64 ay], .agg #[.int .i64 cx, .int .i64 cy]] [] (.bool (Sp.hitb lx ly hx hy ax ay cx cy)) [] := by
  have q := hit_ok lx ly hx hy ax ay cx cy h
  rw [Sp.lim_small (x := ax) (by omega) (by omega), Sp.lim_small (x := ay) (by omega) (by omega), Sp.lim_small (x := cx) (by omega) (by omega), Sp.lim_small (x := cy) (by omega) (by omega)] at q
  exact q
theorem gap_in (lx ly hx hy ax ay : Int) (h : Sp.bok lx ly hx hy = true) (axl : -1000 ≤ ax) (axu : ax ≤ 1000) (ayl : -1000 ≤ ay) (ayu : ay ≤ 1000) : AC Try.prog 17 0 [.agg #[.int .i64 lx, .int .i64 ly, .int .i64 hx, .int .i64 hy], .agg #[.int .i64 ax, .int .i64 ay]] [] (.tuple #[.int .i64 (Sp.gapN lx ly hx hy ax ay), .int .i64 0]) [] := by
  exact gap_ok lx ly hx hy ax ay h (by rw [Sp.lim_small (x := ax) (by omega) (by omega), Sp.lim_small (x := ay) (by omega) (by omega)]; simp)

end Go.Proofs.Ytmpeiinmbpjjdaa.Am
