/-
  Products of numbers of 128 bits.
-/
import Derived.Test.YtngmegnaohmapaaDoorProg
import Derived.Test.YtngmegnaohmapaaDoorAm16
import Derived.Test.YtngmegnaohmapaaDoorWd2
namespace Go.Proofs.YtngmegnaohmapaaDoor.Am
open Go Go.Proofs
set_option maxRecDepth 100000
set_option maxHeartbeats 4000000
set_option linter.unusedVariables false
set_option linter.unusedSimpArgs false

theorem wtimes_in (a n : Int) (zla : -170141183460469231731687303715884105728 ≤ a) (zua : a < 170141183460469231731687303715884105728) (zln : -9223372036854775808 ≤ n) (zun : n ≤ 9223372036854775807) (h : Sp.in128 (a * n) = true) : AC Tryd.prog 62 0 [.agg #[.int .i64 (Sp.wh a), .int .u64 (Sp.wl a)], .int .i64 n] [] (.tuple #[.agg #[.int .i64 (Sp.wh (a * n)), .int .u64 (Sp.wl (a * n))], .int .i64 0]) [] := by
  have t := wtimes_ok a n zla zua zln zun
  rw [(Sp.tm_in h).1, (Sp.tm_in h).2] at t
  exact t
theorem wtimes_out (a n : Int) (zla : -170141183460469231731687303715884105728 ≤ a) (zua : a < 170141183460469231731687303715884105728) (zln : -9223372036854775808 ≤ n) (zun : n ≤ 9223372036854775807) (h : Sp.in128 (a * n) = false) : AC Tryd.prog 62 0 [.agg #[.int .i64 (Sp.wh a), .int .u64 (Sp.wl a)], .int .i64 n] [] (.tuple #[.agg #[.int .i64 0, .int .u64 0], .int .i64 2]) [] := by
  have t := wtimes_ok a n zla zua zln zun
  rw [(Sp.tm_out (by rw [h]; decide)).1, (Sp.tm_out (by rw [h]; decide)).2] at t
  exact t

end Go.Proofs.YtngmegnaohmapaaDoor.Am
