import Derived.Test.YtngmegnaohmapaaDoorTx4
import Derived.Test.YtngmegnaohmapaaDoorNc7
set_option linter.unusedVariables false
set_option linter.unusedSimpArgs false
namespace Go.Proofs.YtngmegnaohmapaaDoor.Am.Sp
open Go
/-! Rounded fractions -/
theorem frT_len {n d : Int} (h0 : -9223372036854775808 ≤ n) (h1 : n ≤ 9223372036854775807) (h2 : d ≤ 9223372036854775807) : (frT n d).length ≤ 141 := by
  have bn := fn_bd (d := d) h0 h1
  have bd := fd_bd (n := n) h2
  have l1 := numT_len (x := fn n d) (by omega) (by omega)
  have l2 := numT_len (x := fd n d) (by omega) (by omega)
  unfold frT
  split
  · omega
  · simp only [List.length_append, List.length_cons, List.length_nil]; omega
theorem numb_fit (x : Int) : fitq (numb x) = true := bd_fit (numb_bd x) (by decide) (by decide)
theorem numb_small (x : Int) : -1000 ≤ qn (numb x) ∧ qn (numb x) ≤ 1000 ∧ qd (numb x) ≤ 1000 := by
  have h := numb_bd x
  unfold Bd at h
  unfold qn qd
  rw [if_pos (numb_fit x), if_pos (numb_fit x)]
  omega
theorem numb_back (x : Int) : frN (frT (qn (numb x)) (qd (numb x))) = qn (numb x) ∧ frM (frT (qn (numb x)) (qd (numb x))) = qd (numb x) ∧ frE (frT (qn (numb x)) (qd (numb x))) = 0 := by
  have h := numb_small x
  exact fr_numb (gd_q (numb_fit x)) h.1 h.2.1 h.2.2
theorem numb_floor (x : Int) : -70 ≤ (numb x).floor ∧ (numb x).floor ≤ 70 := by
  have h := numb_bd x
  unfold Bd at h
  rw [Rat.floor_def]
  have hp : (0 : Int) < (numb x).den := by have := (numb x).den_pos; omega
  have := ediv_bd (x := (numb x).num) (y := ((numb x).den : Int)) (M := 70) (by omega) (by omega) (by omega)
  omega
theorem rnd_cases (q : Rat) : rnd q = q.floor ∨ rnd q = q.floor + 1 := by unfold rnd; split <;> simp
theorem numb_rnd (x : Int) : -70 ≤ rnd (numb x) ∧ rnd (numb x) ≤ 71 := by
  have := numb_floor x; have := rnd_cases (numb x); omega
theorem rnd_bd (x : Int) : Bd 71 1 (((rnd (numb x) : Int)) : Rat) := by
  have := numb_rnd x
  unfold Bd; rw [Rat.num_intCast, Rat.den_intCast]; omega
theorem rnd_half (q : Rat) : q + (-((rnd q : Int) : Rat)) < rv 1 2 ∧ -(rv 1 2) ≤ q + (-((rnd q : Int) : Rat)) := by
  have hh : rv 1 2 = 1 / 2 := by decide +kernel
  rw [hh]
  have hp : (0 : Rat) < ((q.den : Int) : Rat) := Rat.intCast_pos.2 (by have := q.den_pos; omega)
  have e1 : q * ((q.den : Int) : Rat) = ((q.num : Int) : Rat) := by
    have e0 : q = ((q.num : Int) : Rat) / ((q.den : Int) : Rat) := by rw [← Rat.divInt_eq_div]; exact (Rat.num_divInt_den q).symm
    conv => lhs; arg 1; rw [e0]
    exact div_mul hp
  have e2 : ((q.num : Int) : Rat) = ((q.den : Int) : Rat) * ((q.floor : Int) : Rat) + ((q.num % q.den : Int) : Rat) := by
    rw [Rat.floor_def, ← Rat.intCast_mul, ← Rat.intCast_add, Int.mul_ediv_add_emod]
  have key : (q - ((q.floor : Int) : Rat)) * ((q.den : Int) : Rat) = ((q.num % q.den : Int) : Rat) := by grind
  have r1 : ((q.num % q.den : Int) : Rat) < ((q.den : Int) : Rat) := Rat.intCast_lt_intCast.2 (Int.emod_lt_of_pos _ (by have := q.den_pos; omega))
  have f1 : ((q.floor : Int) : Rat) ≤ q := Rat.floor_le q
  unfold rnd
  split
  · rename_i h
    have h2 : ((q.den : Int) : Rat) ≤ 2 * ((q.num % q.den : Int) : Rat) := by
      have := Rat.intCast_le_intCast.2 h
      rw [Rat.intCast_mul] at this; exact this
    rw [Rat.intCast_add]
    have h3 : (1 : Rat) / 2 ≤ q - ((q.floor : Int) : Rat) := by
      apply Classical.byContradiction
      intro hn
      have hlt : q - ((q.floor : Int) : Rat) < 1 / 2 := by grind
      have := Rat.mul_lt_mul_of_pos_right hlt hp
      grind
    have h4 : q - ((q.floor : Int) : Rat) < 1 := by
      apply Classical.byContradiction
      intro hn
      have hle : (1 : Rat) ≤ q - ((q.floor : Int) : Rat) := by grind
      have := Rat.mul_le_mul_of_nonneg_right hle (show 0 ≤ ((q.den : Int) : Rat) by grind)
      grind
    constructor <;> grind
  · rename_i h
    have h2 : 2 * ((q.num % q.den : Int) : Rat) < ((q.den : Int) : Rat) := by
      have := Rat.intCast_lt_intCast.2 (show 2 * (q.num % q.den) < (q.den : Int) by omega)
      rw [Rat.intCast_mul] at this; exact this
    have h3 : q - ((q.floor : Int) : Rat) < 1 / 2 := by
      apply Classical.byContradiction
      intro hn
      have hle : (1 : Rat) / 2 ≤ q - ((q.floor : Int) : Rat) := by grind
      have := Rat.mul_le_mul_of_nonneg_right hle (show 0 ≤ ((q.den : Int) : Rat) by grind)
      grind
    constructor <;> grind
theorem mk12 : dvn ((1 : Int) : Rat) ((2 : Int) : Rat) = 1 ∧ dvd ((1 : Int) : Rat) ((2 : Int) : Rat) = 2 ∧ dve ((1 : Int) : Rat) ((2 : Int) : Rat) = 0 := by decide +kernel
theorem fl_lt1 (q : Rat) : q < ((q.floor + 1 : Int) : Rat) := Rat.lt_floor_add_one q
end Go.Proofs.YtngmegnaohmapaaDoor.Am.Sp

