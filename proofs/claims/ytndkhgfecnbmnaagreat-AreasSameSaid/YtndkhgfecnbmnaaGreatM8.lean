import Derived.Test.YtndkhgfecnbmnaaGreatProg
import Derived.Test.YtndkhgfecnbmnaaGreatM2
import Derived.Test.YtndkhgfecnbmnaaGreatM4
import Derived.Test.YtndkhgfecnbmnaaGreatM7
import Derived.Test.YtndkhgfecnbmnaaGreatM3
namespace Go.Proofs.YtndkhgfecnbmnaaGreat.Am
open Go Go.Proofs
set_option maxRecDepth 100000
set_option maxHeartbeats 4000000
set_option linter.unusedVariables false
set_option linter.unusedSimpArgs false
theorem bgrow_ok (ax ay az aw by_ : Int) :
    AC Tryz.prog 12 0 ([.agg #[.int .i64 ax, .int .i64 ay, .int .i64 az, .int .i64 aw], .int .i64 by_]) [] (.agg #[.int .i64 (Sp.lim 1048576 ((Sp.lim 1048576 ax) - (Sp.mx (-4194304) (Sp.mn by_ 4194304)))), .int .i64 (Sp.lim 1048576 ((Sp.lim 1048576 ay) - (Sp.mx (-4194304) (Sp.mn by_ 4194304)))), .int .i64 (Sp.lim 1048576 ((Sp.lim 1048576 az) + (Sp.mx (-4194304) (Sp.mn by_ 4194304)))), .int .i64 (Sp.lim 1048576 ((Sp.lim 1048576 aw) + (Sp.mx (-4194304) (Sp.mn by_ 4194304))))]) [] := by
  have qax := Sp.lim_bd (m := 1048576) (by decide) ax; have qay := Sp.lim_bd (m := 1048576) (by decide) ay; have qaz := Sp.lim_bd (m := 1048576) (by decide) az; have qaw := Sp.lim_bd (m := 1048576) (by decide) aw; have g : -4194304 ≤ Sp.mx (-4194304) (Sp.mn by_ 4194304) ∧ Sp.mx (-4194304) (Sp.mn by_ 4194304) ≤ 4194304 := (by unfold Sp.mx Sp.mn; (repeat' split) <;> omega)
  refine ac_in Tryz.func12 (fun w0 W pin => ?_)
  refine aw_p 3 (
    .a 2 1 <| .nil _ _) ?_
  refine aw_p 7 (
    .a 4 3 <| .nil _ _) ?_
  refine aw_d 15 (
    .a 2 3 <| .p (does_c (clamp_ok ax ay)) <| .a 2 3 <| .p (does_c (clamp_ok az aw)) <| .a 4 3 <| .nil _ _) ?_
  refine aw_d 31 (
    .a 3 5 <| .p (does_i ((Sp.lim 1048576 ax) - (Sp.mx (-4194304) (Sp.mn by_ 4194304))) (wrap_i64 (by omega) (by omega)) .i64) <| .a 3 5 <| .p (does_i ((Sp.lim 1048576 ay) - (Sp.mx (-4194304) (Sp.mn by_ 4194304))) (wrap_i64 (by omega) (by omega)) .i64) <| .a 1 5 <|
    .p (does_c (clamp_ok ((Sp.lim 1048576 ax) - (Sp.mx (-4194304) (Sp.mn by_ 4194304))) ((Sp.lim 1048576 ay) - (Sp.mx (-4194304) (Sp.mn by_ 4194304))))) <| .a 3 5 <| .p (does_i ((Sp.lim 1048576 az) + (Sp.mx (-4194304) (Sp.mn by_ 4194304))) (wrap_i64 (by omega) (by omega)) .i64) <| .a 3 5 <|
    .p (does_i ((Sp.lim 1048576 aw) + (Sp.mx (-4194304) (Sp.mn by_ 4194304))) (wrap_i64 (by omega) (by omega)) .i64) <| .a 1 5 <| .p (does_c (clamp_ok ((Sp.lim 1048576 az) + (Sp.mx (-4194304) (Sp.mn by_ 4194304))) ((Sp.lim 1048576 aw) + (Sp.mx (-4194304) (Sp.mn by_ 4194304))))) <| .a 2 5 <| .nil _ _) ?_
  refine aw_w [(4, .pointer (some ⟨2, 0, none⟩))] [(2, ⟨[.int .i64 (Sp.lim 1048576 ((Sp.lim 1048576 ax) - (Sp.mx (-4194304) (Sp.mn by_ 4194304)))), .int .i64 (Sp.lim 1048576 ((Sp.lim 1048576 ay) - (Sp.mx (-4194304) (Sp.mn by_ 4194304)))), .int .i64 (Sp.lim 1048576 ((Sp.lim 1048576 az) + (Sp.mx (-4194304) (Sp.mn by_ 4194304)))), .int .i64 (Sp.lim 1048576 ((Sp.lim 1048576 aw) + (Sp.mx (-4194304) (Sp.mn by_ 4194304))))], 36, true, 4⟩)] ?_
  refine aw_rt ?_
  exact en_ret [.agg #[.int .i64 (Sp.lim 1048576 ((Sp.lim 1048576 ax) - (Sp.mx (-4194304) (Sp.mn by_ 4194304)))), .int .i64 (Sp.lim 1048576 ((Sp.lim 1048576 ay) - (Sp.mx (-4194304) (Sp.mn by_ 4194304)))), .int .i64 (Sp.lim 1048576 ((Sp.lim 1048576 az) + (Sp.mx (-4194304) (Sp.mn by_ 4194304)))), .int .i64 (Sp.lim 1048576 ((Sp.lim 1048576 aw) + (Sp.mx (-4194304) (Sp.mn by_ 4194304))))]] (by kernel_rfl)
theorem grow_in (a b c d k : Int) (al : -900 ≤ a) (au : a ≤ 900) (bl : -900 ≤ b) (bu : b ≤ 900) (cl : -900 ≤ c) (cu : c ≤ 900) (dl : -900 ≤ d) (du : d ≤ 900) (kl : -30 ≤ k) (ku : k ≤ 30) : AC Tryz.prog 12 0 [.agg #[.int .i64 a, .int .i64 b, .int .i64 c, .int .i64 d], .int .i64 k] [] (.agg #[.int .i64 (a - k), .int .i64 (b - k), .int .i64 (c + k), .int .i64 (d + k)]) [] := by
  have h := bgrow_ok a b c d k
  rw [Sp.grow_k kl ku, Sp.lim_small (x := a) (by omega) (by omega), Sp.lim_small (x := b) (by omega) (by omega), Sp.lim_small (x := c) (by omega) (by omega), Sp.lim_small (x := d) (by omega) (by omega)] at h
  rw [Sp.lim_small (x := a - k) (by omega) (by omega), Sp.lim_small (x := b - k) (by omega) (by omega), Sp.lim_small (x := c + k) (by omega) (by omega), Sp.lim_small (x := d + k) (by omega) (by omega)] at h
  exact h
end Go.Proofs.YtndkhgfecnbmnaaGreat.Am
