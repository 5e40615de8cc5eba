import Derived.Test.YtomnkdlfmjdckaaAg4
set_option linter.unusedVariables false
set_option linter.unusedSimpArgs false
namespace Go.Proofs.Ytomnkdlfmjdckaa.Am.Sp
open Go
def ahF : List Int → Int → Int
  | [], out => out
  | h :: t, out => if (h == 0) = true then 0 else if (h == 1) = true then ahF t (0 - out) else ahF t out
theorem has_cases (ps : List (Int × Int)) (x y : Int) : hasF ps x y 0 (-1) = 0 ∨ hasF ps x y 0 (-1) = 1 ∨ hasF ps x y 0 (-1) = -1 := by
  cases ps with
  | nil => rw [hasF_end (by simp)]; omega
  | cons a t => rw [hasF_eq]; unfold hasv; (repeat' split) <;> omega
theorem bxo_bd {ps : List (Int × Int)} : ∀ (k : Nat) (i : Nat), i < k → ((bxo ps k).1 ≤ lim 1048576 (ps.getD i (0, 0)).1 ∧ lim 1048576 (ps.getD i (0, 0)).1 ≤ (bxo ps k).2.2.1) ∧ ((bxo ps k).2.1 ≤ lim 1048576 (ps.getD i (0, 0)).2 ∧ lim 1048576 (ps.getD i (0, 0)).2 ≤ (bxo ps k).2.2.2)
  | 0, i, h => by omega
  | k + 1, i, h => by
    by_cases c : k = 0
    · subst c
      have : i = 0 := by omega
      subst this
      rw [bxo_first rfl]
      unfold mn mx
      dsimp only
      (repeat' split) <;> omega
    · rw [bxo_next c]
      dsimp only
      by_cases g : i < k
      · have ih := bxo_bd (ps := ps) k i g
        unfold mn mx
        (repeat' split) <;> omega
      · have : i = k := by omega
        subst this
        unfold mn mx
        (repeat' split) <;> omega
/-- what is in the hull is in the box -/
theorem in_bxo {ps : List (Int × Int)} {x y : Int} (hf : Few 40 ps) (h3 : 2 < (hullF ps).length) (hx : hasH (hullF ps) x y = true) : inbox (bxo ps ps.length).1 (bxo ps ps.length).2.1 (bxo ps ps.length).2.2.1 (bxo ps ps.length).2.2.2 x y = true := by
  have hb : ∀ i, i < (hullF ps).length → ((bxo ps ps.length).1 ≤ ((hullF ps).getD i (0, 0)).1 ∧ ((hullF ps).getD i (0, 0)).1 ≤ (bxo ps ps.length).2.2.1) ∧ ((bxo ps ps.length).2.1 ≤ ((hullF ps).getD i (0, 0)).2 ∧ ((hullF ps).getD i (0, 0)).2 ≤ (bxo ps ps.length).2.2.2) := fun i hi => by
    obtain ⟨j, hj, e⟩ := List.mem_iff_getElem.1 (hull_sub (mem_getD hi))
    have k := bxo_bd (ps := ps) ps.length j hj
    have b := hf j
    rw [lim_id (by omega) (by omega), lim_id (by omega) (by omega), getD_lt hj, e] at k
    exact k
  have a1 := hull_aff (p := (x, y)) (u := 1) (v := 0) (w := -(bxo ps ps.length).1) h3 hx (fun i hi => by have := hb i hi; omega)
  have a2 := hull_aff (p := (x, y)) (u := -1) (v := 0) (w := (bxo ps ps.length).2.2.1) h3 hx (fun i hi => by have := hb i hi; omega)
  have a3 := hull_aff (p := (x, y)) (u := 0) (v := 1) (w := -(bxo ps ps.length).2.1) h3 hx (fun i hi => by have := hb i hi; omega)
  have a4 := hull_aff (p := (x, y)) (u := 0) (v := -1) (w := (bxo ps ps.length).2.2.2) h3 hx (fun i hi => by have := hb i hi; omega)
  dsimp only at a1 a2 a3 a4
  unfold inbox
  rw [decide_eq_true (by omega), decide_eq_true (by omega), decide_eq_true (by omega), decide_eq_true (by omega)]
  rfl
theorem ah_one (ps : List (Int × Int)) (x y : Int) : ahF [hasF ps x y 0 (-1)] (-1) = hasF ps x y 0 (-1) := by
  rcases has_cases ps x y with h | h | h <;> rw [h] <;> rfl
end Go.Proofs.Ytomnkdlfmjdckaa.Am.Sp

