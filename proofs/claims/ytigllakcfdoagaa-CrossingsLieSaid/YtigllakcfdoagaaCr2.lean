import Derived.Test.YtigllakcfdoagaaCr1
import Derived.Test.YtigllakcfdoagaaAm19
import Derived.Test.YtigllakcfdoagaaNc7
set_option linter.unusedVariables false
set_option linter.unusedSimpArgs false
namespace Go.Proofs.Ytigllakcfdoagaa.Am.Sp
/-! Segments out of numbers; lines by rational numbers -/
theorem cp41 {ax ay bx b_y cx cy dx dy : Int} (h : prp ax ay bx b_y cx cy dx dy = true)
    (axl : -41 ≤ ax) (axu : ax ≤ 41) (ayl : -41 ≤ ay) (ayu : ay ≤ 41) (bxl : -41 ≤ bx) (bxu : bx ≤ 41) (b_yl : -41 ≤ b_y) (b_yu : b_y ≤ 41)
    (cxl : -41 ≤ cx) (cxu : cx ≤ 41) (cyl : -41 ≤ cy) (cyu : cy ≤ 41) (dxl : -41 ≤ dx) (dxu : dx ≤ 41) (dyl : -41 ≤ dy) (dyu : dy ≤ 41) :
    (Bd 551368 13448 (cpx ax ay bx b_y cx cy dx dy) ∧ Bd 551368 13448 (cpy ax ay bx b_y cx cy dx dy)) ∧
    ((-41 ≤ rnd (cpx ax ay bx b_y cx cy dx dy) ∧ rnd (cpx ax ay bx b_y cx cy dx dy) ≤ 41) ∧ (-41 ≤ rnd (cpy ax ay bx b_y cx cy dx dy) ∧ rnd (cpy ax ay bx b_y cx cy dx dy) ≤ 41)) := by
  have sg := prp_sg h
  have b1 := between sg axl bxl axu bxu
  have b2 := between sg ayl b_yl ayu b_yu
  have db : -13448 ≤ crs cx cy dx dy ax ay - crs cx cy dx dy bx b_y ∧ crs cx cy dx dy ax ay - crs cx cy dx dy bx b_y ≤ 13448 := by
    rw [den_cd]
    unfold den4
    have p1 := mul_bd (a := bx - ax) (b := dy - cy) (A := 82) (B := 82) (by omega) (by omega) (by omega) (by omega)
    have p2 := mul_bd (a := b_y - ay) (b := dx - cx) (A := 82) (B := 82) (by omega) (by omega) (by omega) (by omega)
    omega
  refine ⟨⟨bd_of (M := 41) (D := 13448) b1.1 b1.2 (den_le sg db.1 db.2), bd_of (M := 41) (D := 13448) b2.1 b2.2 (den_le sg db.1 db.2)⟩, rnd_bd (M := 41) b1.1 b1.2, rnd_bd (M := 41) b2.1 b2.2⟩
theorem one41 {ax ay bx b_y cx cy dx dy x y : Int} (h : shr ax ay bx b_y cx cy dx dy = [(x, y)])
    (axl : -41 ≤ ax) (axu : ax ≤ 41) (ayl : -41 ≤ ay) (ayu : ay ≤ 41) (bxl : -41 ≤ bx) (bxu : bx ≤ 41) (b_yl : -41 ≤ b_y) (b_yu : b_y ≤ 41)
    (cxl : -41 ≤ cx) (cxu : cx ≤ 41) (cyl : -41 ≤ cy) (cyu : cy ≤ 41) (dxl : -41 ≤ dx) (dxu : dx ≤ 41) (dyl : -41 ≤ dy) (dyu : dy ≤ 41) :
    (-41 ≤ x ∧ x ≤ 41) ∧ (-41 ≤ y ∧ y ≤ 41) := by
  have hm := one_mem h
  rw [mem_shr] at hm
  rcases hm with ⟨e, _⟩ | ⟨e, _⟩ | ⟨e, _⟩ | ⟨e, _⟩ <;> (cases e) <;> omega
theorem rcmp_self (a : Rat) : rcmp a a = 0 := by
  have h : ¬ a < a := Rat.lt_irrefl
  unfold rcmp; rw [if_neg h, if_neg h]
theorem rcmp_eqb {a b : Rat} (h : a = b) : (rcmp a b == 0) = true := by rw [h, rcmp_self]; rfl
theorem l6_ab {ax ay bx b_y cx cy dx dy : Int} (h : prp ax ay bx b_y cx cy dx dy = true) : (((b_y - ay : Int) : Int) : Rat) * (cpx ax ay bx b_y cx cy dx dy + (-((ax : Int) : Rat))) = (((bx - ax : Int) : Int) : Rat) * (cpy ax ay bx b_y cx cy dx dy + (-((ay : Int) : Rat))) := by
  have e := cp_ab h; grind
theorem l6_cd {ax ay bx b_y cx cy dx dy : Int} (h : prp ax ay bx b_y cx cy dx dy = true) : (((dy - cy : Int) : Int) : Rat) * (cpx ax ay bx b_y cx cy dx dy + (-((cx : Int) : Rat))) = (((dx - cx : Int) : Int) : Rat) * (cpy ax ay bx b_y cx cy dx dy + (-((cy : Int) : Rat))) := by
  have e := cp_cd h; grind
theorem l6_on {ax ay bx b_y x y : Int} (h : onb ax ay bx b_y x y = true) : (((b_y - ay : Int) : Int) : Rat) * (((x : Int) : Rat) + (-((ax : Int) : Rat))) = (((bx - ax : Int) : Int) : Rat) * (((y : Int) : Rat) + (-((ay : Int) : Rat))) := by
  have l := onb_crs h
  unfold crs at l
  rw [← Rat.sub_eq_add_neg, ← Rat.sub_eq_add_neg, ← Rat.intCast_sub, ← Rat.intCast_sub, ← Rat.intCast_mul, ← Rat.intCast_mul, Rat.intCast_inj]
  grind
def sgE1 (xs : List Int) (i : Nat) : Int := xs.getD (4 * i) 0 % 81 - 40
def sgE2 (xs : List Int) (i : Nat) : Int := xs.getD (4 * i + 1) 0 % 81 - 40
def sgE4 (xs : List Int) (i : Nat) : Int := xs.getD (4 * i + 3) 0 % 81 - 40
def sgE3 (xs : List Int) (i : Nat) : Int := if ((xs.getD (4 * i + 2) 0 % 81 - 40 == sgE1 xs i) && ((sgE4 xs i == sgE2 xs i) && true)) = true then xs.getD (4 * i + 2) 0 % 81 - 40 + 1 else xs.getD (4 * i + 2) 0 % 81 - 40
def sgc (xs : List Int) (i : Nat) : List Value := [.int .i64 (sgE1 xs i), .int .i64 (sgE2 xs i), .int .i64 (sgE3 xs i), .int .i64 (sgE4 xs i)]
theorem sgc_t {xs : List Int} {i : Nat} (h : ((xs.getD (4 * i + 2) 0 % 81 - 40 == sgE1 xs i) && ((sgE4 xs i == sgE2 xs i) && true)) = true) : sgc xs i = [.int .i64 (sgE1 xs i), .int .i64 (sgE2 xs i), .int .i64 (xs.getD (4 * i + 2) 0 % 81 - 40 + 1), .int .i64 (sgE4 xs i)] := by
  unfold sgc sgE3; rw [if_pos h]
theorem sgc_f {xs : List Int} {i : Nat} (h : ((xs.getD (4 * i + 2) 0 % 81 - 40 == sgE1 xs i) && ((sgE4 xs i == sgE2 xs i) && true)) = false) : sgc xs i = [.int .i64 (sgE1 xs i), .int .i64 (sgE2 xs i), .int .i64 (xs.getD (4 * i + 2) 0 % 81 - 40), .int .i64 (sgE4 xs i)] := by
  unfold sgc sgE3; rw [if_neg (by rw [h]; decide)]
theorem sg_bd (xs : List Int) (i : Nat) : ((-40 ≤ sgE1 xs i ∧ sgE1 xs i ≤ 41) ∧ (-40 ≤ sgE2 xs i ∧ sgE2 xs i ≤ 41)) ∧ ((-40 ≤ sgE3 xs i ∧ sgE3 xs i ≤ 41) ∧ (-40 ≤ sgE4 xs i ∧ sgE4 xs i ≤ 41)) := by
  have a : -40 ≤ sgE1 xs i ∧ sgE1 xs i ≤ 41 := by unfold sgE1; omega
  have b : -40 ≤ sgE2 xs i ∧ sgE2 xs i ≤ 41 := by unfold sgE2; omega
  have d : -40 ≤ sgE4 xs i ∧ sgE4 xs i ≤ 41 := by unfold sgE4; omega
  have c : -40 ≤ sgE3 xs i ∧ sgE3 xs i ≤ 41 := by unfold sgE3; split <;> omega
  exact ⟨⟨a, b⟩, c, d⟩
end Go.Proofs.Ytigllakcfdoagaa.Am.Sp

