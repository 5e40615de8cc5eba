/-
  The law AreaParity for all areas that are drawn.
-/
import Derived.Test.YtndkhgfecnbmnaaProg
import Derived.Test.YtndkhgfecnbmnaaAm16
import Derived.Test.YtndkhgfecnbmnaaZp0
import Derived.Test.YtndkhgfecnbmnaaZp1
import Derived.Test.YtndkhgfecnbmnaaZp2
import Derived.Test.YtndkhgfecnbmnaaZp3
namespace Go.Proofs.Ytndkhgfecnbmnaa.Am
open Go Go.Proofs
set_option maxRecDepth 100000
set_option maxHeartbeats 4000000
set_option linter.unusedVariables false
set_option linter.unusedSimpArgs false

theorem areaParity_walk (xs : List Int) (u px py : Int) (hu : AC Try.prog 10 0 [.int .i64 u] [] (.agg #[.int .i64 px, .int .i64 py]) []) (bpx : -40 ≤ px) (cpx : px ≤ 40) (bpy : -40 ≤ py) (cpy : py ≤ 40) : AC Try.prog 3 1 [.slice (some ⟨0, 0, none⟩) xs.length 0, .int .i64 u] [(0, ⟨(xs.map i64v), 3, false, 1⟩)] (.bool true) [] := by
  have g0 := Sp.emod_bd (xs.getD 0 0) (n := 30) (by decide)
  have g1 := Sp.emod_bd (xs.getD 1 0) (n := 30) (by decide)
  have g2 := Sp.emod_bd (xs.getD 2 0) (n := 10) (by decide)
  have g3 := Sp.emod_bd (xs.getD 3 0) (n := 4) (by decide)
  rcases (show xs.getD 3 0 % 4 = 0 ∨ xs.getD 3 0 % 4 = 1 ∨ xs.getD 3 0 % 4 = 2 ∨ xs.getD 3 0 % 4 = 3 by omega) with h | h | h | h
  · exact areaParity_0 xs (Sp.sqr (xs.getD 0 0 % 30 - 15) (xs.getD 1 0 % 30 - 15) (6 + xs.getD 2 0 % 10)) ⟨by simp [Sp.sqr, Sp.hol], by simp [Sp.sqr, Sp.hol]⟩ (Sp.few_sqr (m := 1000) (by omega) (by omega) (by omega)).1 (Sp.sq_good (by omega) (by omega) (by omega) (by omega)).1  (marea_0 xs h) u px py hu bpx cpx bpy cpy
  · have e4 := Sp.emod_bd (xs.getD 4 0) (n := (6 + xs.getD 2 0 % 10) - 2) (by omega); exact areaParity_1 xs (Sp.sqr (xs.getD 0 0 % 30 - 15) (xs.getD 1 0 % 30 - 15) (6 + xs.getD 2 0 % 10)) (Sp.hol (xs.getD 0 0 % 30 - 15) (xs.getD 1 0 % 30 - 15) (1 + xs.getD 4 0 % ((6 + xs.getD 2 0 % 10) - 2))) ⟨by simp [Sp.sqr, Sp.hol], by simp [Sp.sqr, Sp.hol]⟩ (Sp.few_sqr (m := 1000) (by omega) (by omega) (by omega)).1 ⟨by simp [Sp.sqr, Sp.hol], by simp [Sp.sqr, Sp.hol]⟩ (Sp.few_sqr (m := 1000) (by omega) (by omega) (by omega)).2 (Sp.sq_good (by omega) (by omega) (by omega) (by omega)).1 (Sp.sq_good (by omega) (by omega) (by omega) (by omega)).2 (Sp.fit_hs (by omega) (by omega) (by omega) (by omega) (by omega) (by omega)) (marea_1 xs h) u px py hu bpx cpx bpy cpy
  · have e4 := Sp.emod_bd (xs.getD 4 0) (n := (6 + xs.getD 2 0 % 10) - 4) (by omega); have e5 := Sp.emod_bd (xs.getD 5 0) (n := 3 + xs.getD 4 0 % ((6 + xs.getD 2 0 % 10) - 4) - 2) (by omega); exact areaParity_2 xs (Sp.sqr (xs.getD 0 0 % 30 - 15) (xs.getD 1 0 % 30 - 15) (6 + xs.getD 2 0 % 10)) (Sp.hol (xs.getD 0 0 % 30 - 15) (xs.getD 1 0 % 30 - 15) (3 + xs.getD 4 0 % ((6 + xs.getD 2 0 % 10) - 4))) (Sp.sqr (xs.getD 0 0 % 30 - 15) (xs.getD 1 0 % 30 - 15) (1 + xs.getD 5 0 % ((3 + xs.getD 4 0 % ((6 + xs.getD 2 0 % 10) - 4)) - 2))) ⟨by simp [Sp.sqr, Sp.hol], by simp [Sp.sqr, Sp.hol]⟩ (Sp.few_sqr (m := 1000) (by omega) (by omega) (by omega)).1 ⟨by simp [Sp.sqr, Sp.hol], by simp [Sp.sqr, Sp.hol]⟩ (Sp.few_sqr (m := 1000) (by omega) (by omega) (by omega)).2 ⟨by simp [Sp.sqr, Sp.hol], by simp [Sp.sqr, Sp.hol]⟩ (Sp.few_sqr (m := 1000) (by omega) (by omega) (by omega)).1 (Sp.sq_good (by omega) (by omega) (by omega) (by omega)).1 (Sp.sq_good (by omega) (by omega) (by omega) (by omega)).2 (Sp.sq_good (by omega) (by omega) (by omega) (by omega)).1 (Sp.fit_hs (by omega) (by omega) (by omega) (by omega) (by omega) (by omega)) (Sp.fit_ss (by omega) (by omega) (by omega) (by omega) (by omega) (by omega)) (Sp.fit_sh (by omega) (by omega) (by omega) (by omega) (by omega) (by omega)) (marea_2 xs h) u px py hu bpx cpx bpy cpy
  · have e4 := Sp.emod_bd (xs.getD 4 0) (n := 3) (by decide); exact areaParity_3 xs (Sp.sqr (xs.getD 0 0 % 30 - 15) (xs.getD 1 0 % 30 - 15) (6 + xs.getD 2 0 % 10)) (Sp.sqr ((xs.getD 0 0 % 30 - 15) + (6 + xs.getD 2 0 % 10) + 3 + xs.getD 4 0 % 3) (xs.getD 1 0 % 30 - 15) (2)) ⟨by simp [Sp.sqr, Sp.hol], by simp [Sp.sqr, Sp.hol]⟩ (Sp.few_sqr (m := 1000) (by omega) (by omega) (by omega)).1 ⟨by simp [Sp.sqr, Sp.hol], by simp [Sp.sqr, Sp.hol]⟩ (Sp.few_sqr (m := 1000) (by omega) (by omega) (by omega)).1 (Sp.sq_good (by omega) (by omega) (by omega) (by omega)).1 (Sp.sq_good (by omega) (by omega) (by omega) (by omega)).1 (Sp.fit_by (by omega) (by omega) (by omega) (by omega) (by omega) (by omega)) (marea_3 xs h) u px py hu bpx cpx bpy cpy

end Go.Proofs.Ytndkhgfecnbmnaa.Am
