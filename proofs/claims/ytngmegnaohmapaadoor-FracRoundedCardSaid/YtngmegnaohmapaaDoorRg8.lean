import Derived.Test.YtngmegnaohmapaaDoorRg5
import Derived.Test.YtngmegnaohmapaaDoorSq1
set_option linter.unusedVariables false
set_option linter.unusedSimpArgs false
namespace Go.Proofs.YtngmegnaohmapaaDoor.Am.Sp
open Go
/-! The document's ways: whether a point is inside (by edges above it), twice the area (by trapezoids) -/
/-- positive if the point (in halves) is above the line -/
def sideD (ax ay bx b_y x y : Int) : Int := (bx - ax) * (y - 2 * ay) - (b_y - ay) * (x - 2 * ax)
def onD0 (ax ay bx b_y x y : Int) : Bool := (sideD ax ay bx b_y x y == 0) && (btw x (2 * ax) (2 * bx) && btw y (2 * ay) (2 * b_y))
def upD0 (ax ay bx b_y x y : Int) : Bool := decide (2 * ax ≤ x) && (decide (x < 2 * bx) && decide (sideD ax ay bx b_y x y < 0))
def onD (ax ay bx b_y x y : Int) : Bool := if ax > bx then onD0 bx b_y ax ay x y else onD0 ax ay bx b_y x y
def upD (ax ay bx b_y x y : Int) : Bool := if ax > bx then upD0 bx b_y ax ay x y else upD0 ax ay bx b_y x y
def insF (ps : List (Int × Int)) (x y : Int) (i : Nat) (many : Int) : Int :=
  if i < ps.length then
    if onD (cA ps i) (cB ps i) (cA ps ((i + 1) % ps.length)) (cB ps ((i + 1) % ps.length)) x y = true then 0
    else insF ps x y (i + 1) (if upD (cA ps i) (cB ps i) (cA ps ((i + 1) % ps.length)) (cB ps ((i + 1) % ps.length)) x y = true then many + 1 else many)
  else 2 * Int.tmod many 2 - 1
termination_by ps.length - i
theorem insF_end {ps : List (Int × Int)} {x y : Int} {i : Nat} {m : Int} (h : ¬ i < ps.length) : insF ps x y i m = 2 * Int.tmod m 2 - 1 := by rw [insF, if_neg h]
theorem insF_on {ps : List (Int × Int)} {x y : Int} {i j : Nat} {m : Int} (h : i < ps.length) (hj : (i + 1) % ps.length = j) (o : onD (cA ps i) (cB ps i) (cA ps j) (cB ps j) x y = true) : insF ps x y i m = 0 := by
  rw [insF, if_pos h, hj, if_pos o]
theorem insF_up {ps : List (Int × Int)} {x y : Int} {i j : Nat} {m : Int} (h : i < ps.length) (hj : (i + 1) % ps.length = j) (o : onD (cA ps i) (cB ps i) (cA ps j) (cB ps j) x y = false) (c : upD (cA ps i) (cB ps i) (cA ps j) (cB ps j) x y = true) : insF ps x y (i + 1) (m + 1) = insF ps x y i m := by
  conv => rhs; rw [insF, if_pos h, hj, if_neg (by rw [o]; decide), if_pos c]
theorem insF_no {ps : List (Int × Int)} {x y : Int} {i j : Nat} {m : Int} (h : i < ps.length) (hj : (i + 1) % ps.length = j) (o : onD (cA ps i) (cB ps i) (cA ps j) (cB ps j) x y = false) (c : upD (cA ps i) (cB ps i) (cA ps j) (cB ps j) x y = false) : insF ps x y (i + 1) m = insF ps x y i m := by
  conv => rhs; rw [insF, if_pos h, hj, if_neg (by rw [o]; decide), if_neg (by rw [c]; decide)]
variable {ax ay bx b_y x y : Int}
theorem onD_s (h : decide (ax > bx) = true) : onD ax ay bx b_y x y = onD0 bx b_y ax ay x y := if_pos (of_decide_eq_true h)
theorem onD_n (h : decide (ax > bx) = false) : onD ax ay bx b_y x y = onD0 ax ay bx b_y x y := if_neg (of_decide_eq_false h)
theorem upD_s (h : decide (ax > bx) = true) : upD ax ay bx b_y x y = upD0 bx b_y ax ay x y := if_pos (of_decide_eq_true h)
theorem upD_n (h : decide (ax > bx) = false) : upD ax ay bx b_y x y = upD0 ax ay bx b_y x y := if_neg (of_decide_eq_false h)
theorem onD0_1 (h : (sideD ax ay bx b_y x y == 0) = false) : onD0 ax ay bx b_y x y = false := by unfold onD0; rw [h]; rfl
theorem onD0_2 (h : (sideD ax ay bx b_y x y == 0) = true) (h2 : btw x (2 * ax) (2 * bx) = false) : onD0 ax ay bx b_y x y = false := by unfold onD0; rw [h, h2]; rfl
theorem onD0_3 (h : (sideD ax ay bx b_y x y == 0) = true) (h2 : btw x (2 * ax) (2 * bx) = true) (h3 : btw y (2 * ay) (2 * b_y) = false) : onD0 ax ay bx b_y x y = false := by unfold onD0; rw [h, h2, h3]; rfl
theorem onD0_4 (h : (sideD ax ay bx b_y x y == 0) = true) (h2 : btw x (2 * ax) (2 * bx) = true) (h3 : btw y (2 * ay) (2 * b_y) = true) : onD0 ax ay bx b_y x y = true := by unfold onD0; rw [h, h2, h3]; rfl
theorem upD0_1 (h : decide (2 * ax ≤ x) = false) : upD0 ax ay bx b_y x y = false := by unfold upD0; rw [h]; rfl
theorem upD0_2 (h : decide (2 * ax ≤ x) = true) (h2 : decide (x < 2 * bx) = false) : upD0 ax ay bx b_y x y = false := by unfold upD0; rw [h, h2]; rfl
theorem upD0_3 (h : decide (2 * ax ≤ x) = true) (h2 : decide (x < 2 * bx) = true) (h3 : decide (sideD ax ay bx b_y x y < 0) = false) : upD0 ax ay bx b_y x y = false := by unfold upD0; rw [h, h2, h3]; rfl
theorem upD0_4 (h : decide (2 * ax ≤ x) = true) (h2 : decide (x < 2 * bx) = true) (h3 : decide (sideD ax ay bx b_y x y < 0) = true) : upD0 ax ay bx b_y x y = true := by unfold upD0; rw [h, h2, h3]; rfl
/-- the ray up, seen from the point -/
def cU (p a b : Int × Int) : Bool := crR (a.2 - p.2) (-(a.1 - p.1)) (b.2 - p.2) (-(b.1 - p.1))
theorem side_crs (ax ay bx b_y x y : Int) : sideD ax ay bx b_y (2 * x) (2 * y) = 2 * crs ax ay bx b_y x y := by unfold sideD crs; grind
theorem btw_two (n a b : Int) : btw (2 * n) (2 * a) (2 * b) = btw n a b := by
  rw [Bool.eq_iff_iff, btw_iff, btw_iff]; omega
theorem onD0_onb (ax ay bx b_y x y : Int) : onD0 ax ay bx b_y (2 * x) (2 * y) = onb ax ay bx b_y x y := by
  rw [← lies_on]
  unfold onD0
  rw [side_crs, btw_two, btw_two]
  congr 1
  rw [Bool.eq_iff_iff, beq_iff_eq, beq_iff_eq]; omega
theorem onD_onb (ax ay bx b_y x y : Int) : onD ax ay bx b_y (2 * x) (2 * y) = onb ax ay bx b_y x y := by
  unfold onD
  split
  · rw [onD0_onb, onb_comm]
  · rw [onD0_onb]
theorem upD_cU (ax ay bx b_y x y : Int) : upD ax ay bx b_y (2 * x) (2 * y) = cU (x, y) (ax, ay) (bx, b_y) := by
  rw [Bool.eq_iff_iff]; unfold cU; rw [crR_iff]; unfold upD upD0
  rw [side_crs, side_crs]
  have e1 : crs bx b_y ax ay x y = -(ax - x) * (b_y - y) - (ay - y) * -(bx - x) := by unfold crs; grind
  have e2 : crs ax ay bx b_y x y = (ay - y) * -(bx - x) - -(ax - x) * (b_y - y) := by unfold crs; grind
  rw [e1, e2]
  simp only
  generalize -(ax - x) * (b_y - y) = Q
  generalize (ay - y) * -(bx - x) = R
  split <;> simp only [Bool.and_eq_true, decide_eq_true_eq] <;> omega
theorem par_lineU (p : Int × Int) : ∀ (l : List (Int × Int)) (a : Int × Int), offp p a l → (xorp (cU p) a l != xorp (cR p) a l) = (qd4 (a.2 - p.2) (-(a.1 - p.1)) != qd4 ((lastp a l).2 - p.2) (-((lastp a l).1 - p.1)))
  | [], a, _ => by simp [xorp, lastp]
  | b :: r, a, h => by
    have e : (cU p a b != cR p a b) = (qd4 (a.2 - p.2) (-(a.1 - p.1)) != qd4 (b.2 - p.2) (-(b.1 - p.1))) := by
      have k := ray_edge (x := a.2 - p.2) (y := -(a.1 - p.1)) (u := b.2 - p.2) (v := -(b.1 - p.1)) (fun k => by
        have : onb a.1 a.2 b.1 b.2 p.1 p.2 = true := by
          rw [onb_iff]
          constructor
          · have := k.1; unfold crs; grind
          · have := k.2; unfold dot; grind
        rw [h.1] at this; cases this)
      rw [Int.neg_neg, Int.neg_neg] at k
      exact k
    have ih := par_lineU p r b h.2
    simp only [xorp, lastp]
    revert e ih
    generalize qd4 (a.2 - p.2) (-(a.1 - p.1)) = A
    generalize qd4 (b.2 - p.2) (-(b.1 - p.1)) = B
    generalize qd4 ((lastp b r).2 - p.2) (-((lastp b r).1 - p.1)) = E
    cases cU p a b <;> cases cR p a b <;> cases xorp (cU p) b r <;> cases xorp (cR p) b r <;> cases A <;> cases B <;> cases E <;> simp
theorem par_ringU {p a : Int × Int} {l : List (Int × Int)} (h : offp p a l) (hc : lastp a l = a) : xorp (cU p) a l = xorp (cR p) a l := by
  have e := par_lineU p l a h
  rw [hc] at e
  revert e
  cases xorp (cU p) a l <;> cases xorp (cR p) a l <;> simp
def b2i (b : Bool) : Int := if b = true then 1 else 0
theorem insF_line (ps : List (Int × Int)) (x y : Int) (b0 : Int × Int) (rest : List (Int × Int)) (hp : ps = b0 :: rest) : ∀ (k i : Nat) (m : Int), i + k = ps.length → 0 ≤ m →
    insF ps (2 * x) (2 * y) i m = if onany (x, y) ((ps.map limp ++ [limp b0]).getD i (0, 0)) ((ps.map limp ++ [limp b0]).drop (i + 1)) = true then 0 else 2 * ((m + b2i (xorp (cU (x, y)) ((ps.map limp ++ [limp b0]).getD i (0, 0)) ((ps.map limp ++ [limp b0]).drop (i + 1)))) % 2) - 1
  | 0, i, m, h, hm => by
    rw [insF_end (by omega), List.drop_of_length_le (by simp; omega)]
    simp only [onany, xorp, b2i, Bool.false_eq_true, if_false, Int.add_zero]
    rw [Int.tmod_eq_emod_of_nonneg hm]
  | k + 1, i, m, h, hm => by
    have hlt : i < ps.length := by omega
    have hM : (ps.map limp ++ [limp b0]).length = ps.length + 1 := by simp
    have hd : (ps.map limp ++ [limp b0]).drop (i + 1) = (ps.map limp ++ [limp b0]).getD (i + 1) (0, 0) :: (ps.map limp ++ [limp b0]).drop (i + 2) := by
      rw [List.drop_eq_getElem_cons (by omega), getD_lt (by omega)]
    have ha : (ps.map limp ++ [limp b0]).getD i (0, 0) = (cA ps i, cB ps i) := by
      rw [getD_lt (by omega), List.getElem_append_left (by simpa using hlt), List.getElem_map]
      unfold cA cB limp; rw [getD_lt hlt]
    have hb : (ps.map limp ++ [limp b0]).getD (i + 1) (0, 0) = (cA ps ((i + 1) % ps.length), cB ps ((i + 1) % ps.length)) := by
      by_cases e : i + 1 = ps.length
      · rw [e, Nat.mod_self, getD_lt (by omega), List.getElem_append_right (by simp)]
        unfold cA cB; subst hp; simp [limp]
      · have hl : i + 1 < ps.length := by omega
        rw [Nat.mod_eq_of_lt hl, getD_lt (by omega), List.getElem_append_left (by simpa using hl), List.getElem_map]
        unfold cA cB limp; rw [getD_lt hl]
    have ih := insF_line ps x y b0 rest hp k (i + 1)
    have hm' : ∀ c : Bool, 0 ≤ (if c = true then m + 1 else m) := fun c => by cases c <;> simp <;> omega
    rw [insF, if_pos hlt, ih _ (by omega) (hm' _), hd, onany, xorp, hb, ha, upD_cU, onD_onb]
    generalize onany (x, y) _ _ = O
    generalize xorp _ _ _ = X
    generalize onb _ _ _ _ _ _ = o
    generalize cU _ _ _ = c
    cases O <;> cases X <;> cases o <;> cases c <;> simp [b2i] <;> omega
theorem insF_hasF (ps : List (Int × Int)) (x y : Int) : insF ps (2 * x) (2 * y) 0 0 = hasF ps x y 0 (-1) := by
  cases ps with
  | nil => rw [insF_end (by simp), hasF_end (by simp)]; rfl
  | cons a t =>
    rw [hasF_line (a :: t) x y a t rfl (a :: t).length 0 (-1) (by omega), insF_line (a :: t) x y a t rfl (a :: t).length 0 0 (by omega) (by omega)]
    by_cases h : onany (x, y) (((a :: t).map limp ++ [limp a]).getD 0 (0, 0)) (((a :: t).map limp ++ [limp a]).drop (0 + 1)) = true
    · rw [if_pos h, if_pos h]
    · rw [if_neg h, if_neg h, par_ringU ((off_iff _ _ _).2 (by simpa using h)) (by
        rw [show ((a :: t).map limp ++ [limp a]).drop (0 + 1) = t.map limp ++ [limp a] from rfl, lastp_snoc]; rfl)]
      generalize xorp _ _ _ = X
      cases X <;> simp [b2i]
/-! ### twice the area -/
theorem wr_add (a b : Int) : IntKind.wrap .i64 (IntKind.wrap .i64 a + b) = IntKind.wrap .i64 (a + b) := by
  rw [IntKind.wrap_i64, IntKind.wrap_i64, IntKind.wrap_i64]; omega
def trp (ps : List (Int × Int)) (i j : Nat) : Int := (cA ps i - cA ps j) * (cB ps i + cB ps j)
def dblF (ps : List (Int × Int)) (i : Nat) (s : Int) : Int := if i < ps.length then dblF ps (i + 1) (IntKind.wrap .i64 (s + trp ps i ((i + 1) % ps.length))) else s
termination_by ps.length - i
theorem dblF_end {ps : List (Int × Int)} {i : Nat} {s : Int} (h : ¬ i < ps.length) : dblF ps i s = s := by rw [dblF, if_neg h]
theorem dblF_step {ps : List (Int × Int)} {i j : Nat} {s : Int} (h : i < ps.length) (hj : (i + 1) % ps.length = j) : dblF ps (i + 1) (IntKind.wrap .i64 (s + (cA ps i - cA ps j) * (cB ps i + cB ps j))) = dblF ps i s := by
  conv => rhs; rw [dblF, if_pos h, hj]
  rfl
def dblE (ps : List (Int × Int)) (i : Nat) : Int := if i < ps.length then trp ps i ((i + 1) % ps.length) + dblE ps (i + 1) else 0
termination_by ps.length - i
def twE (ps : List (Int × Int)) (k : Nat) : Int := if k + 1 < ps.length then crs (cA ps 0) (cB ps 0) (cA ps k) (cB ps k) (cA ps (k + 1)) (cB ps (k + 1)) + twE ps (k + 1) else 0
termination_by ps.length - k
theorem dblF_E (ps : List (Int × Int)) : ∀ (m i : Nat) (s : Int), i + m = ps.length → dblF ps i (IntKind.wrap .i64 s) = IntKind.wrap .i64 (s + dblE ps i)
  | 0, i, s, h => by rw [dblF_end (by omega), dblE, if_neg (by omega), Int.add_zero]
  | m + 1, i, s, h => by
    rw [dblF, if_pos (by omega), wr_add, dblF_E ps m (i + 1) _ (by omega)]
    conv => rhs; rw [dblE, if_pos (by omega)]
    rw [Int.add_assoc]
theorem twF_E (ps : List (Int × Int)) : ∀ (m k : Nat) (s : Int), ps.length ≤ k + m → twF ps k (IntKind.wrap .i64 s) = IntKind.wrap .i64 (s + twE ps k)
  | 0, k, s, h => by rw [twF_end (by omega), twE, if_neg (by omega), Int.add_zero]
  | m + 1, k, s, h => by
    by_cases hk : k + 1 < ps.length
    · rw [twF, if_pos hk, wr_add, twF_E ps m (k + 1) _ (by omega)]
      conv => rhs; rw [twE, if_pos hk]
      rw [Int.add_assoc]
    · rw [twF_end hk, twE, if_neg hk, Int.add_zero]
theorem dbl_tw (ps : List (Int × Int)) : ∀ (m k : Nat), k + m + 1 = ps.length → dblE ps k = (if k = 0 then 0 else trp ps k 0) + twE ps (if k = 0 then 1 else k) - (if k = 0 then 0 else 0) := by
  have main : ∀ (m k : Nat), 1 ≤ k → k + m + 1 = ps.length → dblE ps k = trp ps k 0 + twE ps k := by
    intro m
    induction m with
    | zero =>
      intro k h1 h
      rw [dblE, if_pos (by omega), dblE, if_neg (by omega), twE, if_neg (by omega), show k + 1 = ps.length by omega, Nat.mod_self]
    | succ m ih =>
      intro k h1 h
      rw [dblE, if_pos (by omega), ih (k + 1) (by omega) (by omega), Nat.mod_eq_of_lt (by omega)]
      conv => rhs; rw [twE, if_pos (by omega)]
      unfold trp crs; grind
  intro m k h
  by_cases hk : k = 0
  · subst hk
    simp only [if_true]
    cases m with
    | zero => rw [dblE, if_pos (by omega), dblE, if_neg (by omega), twE, if_neg (by omega), show 0 + 1 = ps.length by omega, Nat.mod_self]; unfold trp; simp
    | succ m =>
      rw [dblE, if_pos (by omega), main m (0 + 1) (by omega) (by omega), Nat.mod_eq_of_lt (by omega)]
      unfold trp; grind
  · rw [if_neg hk, if_neg hk, if_neg hk, main m k (by omega) h]; omega
theorem dblF_twF (ps : List (Int × Int)) : dblF ps 0 0 = twF ps 1 0 := by
  have z : IntKind.wrap .i64 0 = 0 := by rw [IntKind.wrap_i64]; omega
  have a := dblF_E ps ps.length 0 0 (by omega)
  have b := twF_E ps ps.length 1 0 (by omega)
  rw [z] at a b
  rw [a, b]
  cases h : ps.length with
  | zero => rw [dblE, if_neg (by omega), twE, if_neg (by omega)]
  | succ n =>
    have := dbl_tw ps n 0 (by omega)
    simp only [if_true] at this
    rw [this]; congr 1; omega
end Go.Proofs.YtngmegnaohmapaaDoor.Am.Sp

set_option linter.unusedVariables false
set_option linter.unusedSimpArgs false
namespace Go.Proofs.YtngmegnaohmapaaDoor.Am.Sp
open Go
/-! Whether a list is a ring -/
abbrev gx (ps : List (Int × Int)) (i : Nat) : Int := (ps.getD i (0, 0)).1
abbrev gy (ps : List (Int × Int)) (i : Nat) : Int := (ps.getD i (0, 0)).2
/-- the first place whose point is such a one -/
def ixF (f : Int × Int → Bool) (ps : List (Int × Int)) (i : Nat) : Int := if i < ps.length then (if f (ps.getD i (0, 0)) = true then ((i : Nat) : Int) else ixF f ps (i + 1)) else -1
termination_by ps.length - i
theorem ixF_end {f : Int × Int → Bool} {ps : List (Int × Int)} {i : Nat} (h : ¬ i < ps.length) : ixF f ps i = -1 := by rw [ixF, if_neg h]
theorem ixF_yes {f : Int × Int → Bool} {ps : List (Int × Int)} {i : Nat} (h : i < ps.length) (hf : f (ps.getD i (0, 0)) = true) : ixF f ps i = ((i : Nat) : Int) := by rw [ixF, if_pos h, if_pos hf]
theorem ixF_no {f : Int × Int → Bool} {ps : List (Int × Int)} {i : Nat} (h : i < ps.length) (hf : f (ps.getD i (0, 0)) = false) : ixF f ps (i + 1) = ixF f ps i := by
  conv => rhs; rw [ixF, if_pos h, if_neg (by rw [hf]; decide)]
theorem ixF_bd (f : Int × Int → Bool) (ps : List (Int × Int)) : ∀ (m i : Nat), i + m = ps.length → (ixF f ps i = -1 ∧ (ps.drop i).any f = false) ∨ (∃ j, i ≤ j ∧ j < ps.length ∧ ixF f ps i = ((j : Nat) : Int) ∧ f (ps.getD j (0, 0)) = true ∧ (ps.drop i).any f = true ∧ ∀ q, i ≤ q → q < j → f (ps.getD q (0, 0)) = false)
  | 0, i, h => .inl ⟨ixF_end (by omega), by rw [List.drop_of_length_le (by omega)]; rfl⟩
  | m + 1, i, h => by
    have hl : i < ps.length := by omega
    have hd : ps.drop i = ps.getD i (0, 0) :: ps.drop (i + 1) := by rw [List.drop_eq_getElem_cons hl, getD_lt hl]
    rcases Bool.eq_false_or_eq_true (f (ps.getD i (0, 0))) with hf | hf
    · exact .inr ⟨i, Nat.le_refl _, hl, ixF_yes hl hf, hf, by rw [hd, List.any_cons, hf]; rfl, fun q h1 h2 => by omega⟩
    · rcases ixF_bd f ps m (i + 1) (by omega) with ⟨h1, h2⟩ | ⟨j, h1, h2, h3, h4, h5, h6⟩
      · exact .inl ⟨by rw [← ixF_no hl hf]; exact h1, by rw [hd, List.any_cons, hf, h2]; rfl⟩
      · refine .inr ⟨j, by omega, h2, by rw [← ixF_no hl hf]; exact h3, h4, by rw [hd, List.any_cons, h5, Bool.or_true], fun q q1 q2 => ?_⟩
        rcases Nat.eq_or_lt_of_le q1 with rfl | q1
        · exact hf
        · exact h6 q q1 q2
theorem ixF_any (f : Int × Int → Bool) (ps : List (Int × Int)) : decide (ixF f ps 0 ≥ 0) = ps.any f := by
  rcases ixF_bd f ps ps.length 0 (by omega) with ⟨h1, h2⟩ | ⟨j, _, _, h3, _, h5, _⟩
  · rw [h1]; rw [List.drop_zero] at h2; rw [h2]; rfl
  · rw [h3]; rw [List.drop_zero] at h5; rw [h5]; exact decide_eq_true (by omega)
def nok (q : Int × Int) : Bool := !(okb q.1 q.2)
def eqP (ps : List (Int × Int)) (k k2 : Nat) : Bool := (gx ps k == gx ps k2) && ((gy ps k == gy ps k2) && true)
def mnE (ps : List (Int × Int)) (k k2 i i2 : Nat) : Int := meetN (cA ps k) (cB ps k) (cA ps k2) (cB ps k2) (cA ps i) (cB ps i) (cA ps i2) (cB ps i2)
/-- two edges, k ahead of i, have only those corners in common that they must have -/
def apF (ps : List (Int × Int)) (k k2 i i2 : Nat) : Bool :=
  if eqP ps k k2 = true then false else if eqP ps i i2 = true then false else if ((k : Nat) : Int) + 1 == ((i : Nat) : Int) then mnE ps k k2 i i2 == 1 else if ((i2 : Nat) : Int) == ((k : Nat) : Int) then mnE ps k k2 i i2 == 1 else mnE ps k k2 i i2 == 0
section
variable {ps : List (Int × Int)} {k k2 i i2 : Nat}
theorem apF_1 (h : eqP ps k k2 = true) : apF ps k k2 i i2 = false := if_pos h
theorem apF_2 (h1 : eqP ps k k2 = false) (h : eqP ps i i2 = true) : apF ps k k2 i i2 = false := by unfold apF; rw [if_neg (by rw [h1]; decide), if_pos h]
theorem apF_3 (h1 : eqP ps k k2 = false) (h2 : eqP ps i i2 = false) (h : (((k : Nat) : Int) + 1 == ((i : Nat) : Int)) = true) : apF ps k k2 i i2 = (mnE ps k k2 i i2 == 1) := by unfold apF; rw [if_neg (by rw [h1]; decide), if_neg (by rw [h2]; decide), if_pos h]
theorem apF_4 (h1 : eqP ps k k2 = false) (h2 : eqP ps i i2 = false) (h3 : (((k : Nat) : Int) + 1 == ((i : Nat) : Int)) = false) (h : (((i2 : Nat) : Int) == ((k : Nat) : Int)) = true) : apF ps k k2 i i2 = (mnE ps k k2 i i2 == 1) := by unfold apF; rw [if_neg (by rw [h1]; decide), if_neg (by rw [h2]; decide), if_neg (by rw [h3]; decide), if_pos h]
theorem apF_5 (h1 : eqP ps k k2 = false) (h2 : eqP ps i i2 = false) (h3 : (((k : Nat) : Int) + 1 == ((i : Nat) : Int)) = false) (h : (((i2 : Nat) : Int) == ((k : Nat) : Int)) = false) : apF ps k k2 i i2 = (mnE ps k k2 i i2 == 0) := by unfold apF; rw [if_neg (by rw [h1]; decide), if_neg (by rw [h2]; decide), if_neg (by rw [h3]; decide), if_neg (by rw [h]; decide)]
end
def apE (ps : List (Int × Int)) (k i : Nat) : Bool := apF ps k ((k + 1) % ps.length) i ((i + 1) % ps.length)
def apRow (ps : List (Int × Int)) (i k : Nat) : Bool := (List.range k).all fun q => apE ps q i
def allap (ps : List (Int × Int)) (i : Nat) : Bool := (List.range i).all fun q => apRow ps q q
theorem all_snoc {f : Nat → Bool} {k : Nat} : (List.range (k + 1)).all f = ((List.range k).all f && f k) := by rw [List.range_succ, List.all_append]; simp
theorem all_at {f : Nat → Bool} {n k : Nat} (h : (List.range n).all f = true) (hk : k < n) : f k = true := List.all_eq_true.1 h k (List.mem_range.2 hk)
theorem all_off {f : Nat → Bool} {n k : Nat} (hk : k < n) (h : f k = false) : (List.range n).all f = false := by
  rcases Bool.eq_false_or_eq_true ((List.range n).all f) with q | q
  · rw [all_at q hk] at h; cases h
  · exact q
theorem apRow_next {ps : List (Int × Int)} {i k k2 i2 : Nat} (h : apRow ps i k = true) (hk : (k + 1) % ps.length = k2) (hi : (i + 1) % ps.length = i2) (q : (!(apF ps k k2 i i2)) = false) : apRow ps i (k + 1) = true := by
  unfold apRow at *; rw [all_snoc, h]; subst hk hi; unfold apE; simpa using q
theorem allap_next {ps : List (Int × Int)} {i k : Nat} (h : allap ps i = true) (hk : k = i) (q : apRow ps i k = true) : allap ps (i + 1) = true := by
  subst hk; unfold allap at *; rw [all_snoc, h]; simpa using q
theorem allap_no {ps : List (Int × Int)} {i k k2 i2 : Nat} (hi : i < ps.length) (hk : k < i) (h2 : (k + 1) % ps.length = k2) (h3 : (i + 1) % ps.length = i2) (q : (!(apF ps k k2 i i2)) = true) : allap ps ps.length = false :=
  all_off hi (all_off hk (by subst h2 h3; unfold apE; simpa using q))
def chkF (ps : List (Int × Int)) : Int := if decide (((ps.length : Nat) : Int) > 200) = true then 2 else if decide (((ps.length : Nat) : Int) < 3) = true then 3 else if ps.any nok = true then 1 else if allap ps ps.length = true then 0 else 10
section
variable {ps : List (Int × Int)}
theorem chk_2 (h : decide (((ps.length : Nat) : Int) > 200) = true) : chkF ps = 2 := if_pos h
theorem chk_3 (h1 : decide (((ps.length : Nat) : Int) > 200) = false) (h : decide (((ps.length : Nat) : Int) < 3) = true) : chkF ps = 3 := by unfold chkF; rw [if_neg (by rw [h1]; decide), if_pos h]
theorem chk_1 (h1 : decide (((ps.length : Nat) : Int) > 200) = false) (h2 : decide (((ps.length : Nat) : Int) < 3) = false) (h : ps.any nok = true) : chkF ps = 1 := by unfold chkF; rw [if_neg (by rw [h1]; decide), if_neg (by rw [h2]; decide), if_pos h]
theorem chk_10 (h1 : decide (((ps.length : Nat) : Int) > 200) = false) (h2 : decide (((ps.length : Nat) : Int) < 3) = false) (h3 : ps.any nok = false) (h : allap ps ps.length = false) : chkF ps = 10 := by unfold chkF; rw [if_neg (by rw [h1]; decide), if_neg (by rw [h2]; decide), if_neg (by rw [h3]; decide), if_neg (by rw [h]; decide)]
theorem chk_0 {i : Nat} (h1 : decide (((ps.length : Nat) : Int) > 200) = false) (h2 : decide (((ps.length : Nat) : Int) < 3) = false) (h3 : ps.any nok = false) (hi : i = ps.length) (h : allap ps i = true) : chkF ps = 0 := by subst hi; unfold chkF; rw [if_neg (by rw [h1]; decide), if_neg (by rw [h2]; decide), if_neg (by rw [h3]; decide), if_pos h]
end
/-! ### the document's order of the same tests -/
def wantN (n i k : Nat) : Int := if k = i + 1 ∨ (i = 0 ∧ k + 1 = n) then 1 else 0
def rgRow (ps : List (Int × Int)) (i k : Nat) : Bool := (List.range k).all fun q => bif Nat.ble (i + 1) q then mnE ps i ((i + 1) % ps.length) q ((q + 1) % ps.length) == wantN ps.length i q else true
def allrg (ps : List (Int × Int)) (i : Nat) : Bool := (List.range i).all fun q => !(eqP ps q ((q + 1) % ps.length)) && rgRow ps q ps.length
theorem rgRow_0 (ps : List (Int × Int)) (i : Nat) : rgRow ps i (i + 1) = true := by
  unfold rgRow
  rw [List.all_eq_true]
  intro q hq
  have := List.mem_range.1 hq
  rw [show Nat.ble (i + 1) q = false from by rcases Bool.eq_false_or_eq_true (Nat.ble (i + 1) q) with h | h; (have := Nat.le_of_ble_eq_true h; omega); exact h]
  rfl
theorem rgRow_next {ps : List (Int × Int)} {i k i2 k2 : Nat} {w : Int} (h : rgRow ps i k = true) (hk : i + 1 ≤ k) (h1 : (i + 1) % ps.length = i2) (h2 : (k + 1) % ps.length = k2) (hw : wantN ps.length i k = w) (q : (mnE ps i i2 k k2 != w) = false) : rgRow ps i (k + 1) = true := by
  unfold rgRow at *; rw [all_snoc, h, Nat.ble_eq_true_of_le hk, h1, h2, hw]; simpa using q
theorem allrg_next {ps : List (Int × Int)} {i i2 k : Nat} (h : allrg ps i = true) (h1 : (i + 1) % ps.length = i2) (e : eqP ps i i2 = false) (hk : ¬ k < ps.length) (hk2 : k ≤ ps.length) (q : rgRow ps i k = true) : allrg ps (i + 1) = true := by
  have : k = ps.length := by omega
  subst this
  unfold allrg at *; rw [all_snoc, h, h1, e, q]; rfl
theorem allrg_no1 {ps : List (Int × Int)} {i i2 : Nat} (hi : i < ps.length) (h1 : (i + 1) % ps.length = i2) (e : eqP ps i i2 = true) : allrg ps ps.length = false := all_off hi (by rw [h1, e]; rfl)
theorem allrg_no2 {ps : List (Int × Int)} {i i2 k k2 : Nat} {w : Int} (hi : i < ps.length) (hk : i + 1 ≤ k) (hkl : k < ps.length) (h1 : (i + 1) % ps.length = i2) (h2 : (k + 1) % ps.length = k2) (hw : wantN ps.length i k = w) (q : (mnE ps i i2 k k2 != w) = true) : allrg ps ps.length = false :=
  all_off hi (by
    have : rgRow ps i ps.length = false := all_off hkl (by rw [Nat.ble_eq_true_of_le hk, h1, h2, hw]; simpa using q)
    rw [this, Bool.and_false])
theorem rg_ap {ps : List (Int × Int)} (hn : 3 ≤ ps.length) : allrg ps ps.length = allap ps ps.length := by
  have ap : ∀ k i, k < i → i < ps.length → (apE ps k i = true ↔ eqP ps k ((k + 1) % ps.length) = false ∧ eqP ps i ((i + 1) % ps.length) = false ∧ mnE ps k ((k + 1) % ps.length) i ((i + 1) % ps.length) = wantN ps.length k i) := by
    intro k i hk hi
    have hi2 : (i + 1) % ps.length = if i + 1 = ps.length then 0 else i + 1 := by
      split
      · rename_i h; rw [h, Nat.mod_self]
      · exact Nat.mod_eq_of_lt (by omega)
    unfold apE apF wantN
    generalize mnE ps k ((k + 1) % ps.length) i ((i + 1) % ps.length) = M
    generalize eqP ps k ((k + 1) % ps.length) = E1
    generalize eqP ps i ((i + 1) % ps.length) = E2
    rw [hi2]
    cases E1 <;> cases E2 <;> simp
    by_cases h1 : k + 1 = i
    · rw [if_pos (by omega), if_pos (.inl h1.symm)]
    · rw [if_neg (by omega)]
      by_cases h2 : k = 0 ∧ i + 1 = ps.length
      · rw [if_pos (by rw [if_pos h2.2, h2.1]), if_pos (.inr h2)]
      · rw [if_neg (by split <;> omega), if_neg (by omega)]
  rw [Bool.eq_iff_iff]
  unfold allrg allap apRow rgRow
  simp only [List.all_eq_true, List.mem_range, Bool.and_eq_true, Bool.not_eq_true']
  constructor
  · intro h i hi k hk
    refine (ap k i hk hi).2 ⟨(h k (by omega)).1, (h i hi).1, ?_⟩
    have := (h k (by omega)).2 i hi
    rw [Nat.ble_eq_true_of_le (show k + 1 ≤ i by omega)] at this
    simpa using this
  · intro h i hi
    have he : ∀ a b, a < b → b < ps.length → eqP ps a ((a + 1) % ps.length) = false ∧ eqP ps b ((b + 1) % ps.length) = false := fun a b hab hb => ⟨((ap a b hab hb).1 (h b hb a hab)).1, ((ap a b hab hb).1 (h b hb a hab)).2.1⟩
    refine ⟨?_, fun k hk => ?_⟩
    · rcases Nat.eq_zero_or_pos i with rfl | hp
      · exact (he 0 1 (by omega) (by omega)).1
      · exact (he 0 i hp hi).2
    · rcases Bool.eq_false_or_eq_true (Nat.ble (i + 1) k) with hb | hb
      · rw [hb]
        have hik : i < k := Nat.le_of_ble_eq_true hb
        have := ((ap i k hik hk).1 (h k hk i hik)).2.2
        simpa using this
      · rw [hb]; rfl
theorem rg_10 {ps : List (Int × Int)} (h1 : decide (((ps.length : Nat) : Int) > 200) = false) (h2 : decide (((ps.length : Nat) : Int) < 3) = false) (h3 : ps.any nok = false) (h : allrg ps ps.length = false) : chkF ps = 10 :=
  chk_10 h1 h2 h3 (by rw [← rg_ap (by have := of_decide_eq_false h2; omega)]; exact h)
theorem rg_0 {ps : List (Int × Int)} {i : Nat} (h1 : decide (((ps.length : Nat) : Int) > 200) = false) (h2 : decide (((ps.length : Nat) : Int) < 3) = false) (h3 : ps.any nok = false) (hi : i = ps.length) (h : allrg ps i = true) : chkF ps = 0 := by
  subst hi
  exact chk_0 h1 h2 h3 rfl (by rw [← rg_ap (by have := of_decide_eq_false h2; omega)]; exact h)
theorem any_next {f : Int × Int → Bool} {ps : List (Int × Int)} {i : Nat} (h : (ps.take i).any f = false) (hi : i < ps.length) (q : f (ps.getD i (0, 0)) = false) : (ps.take (i + 1)).any f = false := by
  rw [getD_lt hi] at q
  rw [List.take_succ_eq_append_getElem hi, List.any_append, h]; simp [q]
theorem any_yes {f : Int × Int → Bool} {ps : List (Int × Int)} {i : Nat} (hi : i < ps.length) (q : f (ps.getD i (0, 0)) = true) : ps.any f = true := by
  rw [List.any_eq_true]; rw [getD_lt hi] at q; exact ⟨_, List.getElem_mem hi, q⟩
theorem any_all {f : Int × Int → Bool} {ps : List (Int × Int)} {i : Nat} (hi : ¬ i < ps.length) (h : (ps.take i).any f = false) : ps.any f = false := by
  rw [List.take_of_length_le (by omega)] at h; exact h
end Go.Proofs.YtngmegnaohmapaaDoor.Am.Sp

set_option linter.unusedVariables false
set_option linter.unusedSimpArgs false
namespace Go.Proofs.YtngmegnaohmapaaDoor.Am.Sp
open Go
/-! Rings in normal form -/
theorem getD_gt {l : List (Int × Int)} {i : Nat} {d : Int × Int} (h : l.length ≤ i) : l.getD i d = d := by simp [List.getD, List.getElem?_eq_none h]
theorem ext_getD {a b : List (Int × Int)} (hl : a.length = b.length) (h : ∀ i, i < a.length → a.getD i (0, 0) = b.getD i (0, 0)) : a = b := by
  refine List.ext_getElem hl fun i h1 h2 => ?_
  have := h i h1
  rwa [getD_lt h1, getD_lt h2] at this
/-- the first i pairs from both ends are exchanged -/
def rvl (ps : List (Int × Int)) (i : Nat) : List (Int × Int) := (List.range ps.length).map fun q => if q < i ∨ ps.length ≤ q + i then ps.getD (ps.length - 1 - q) (0, 0) else ps.getD q (0, 0)
theorem rvl_len (ps : List (Int × Int)) (i : Nat) : (rvl ps i).length = ps.length := by simp [rvl]
theorem rvl_at {ps : List (Int × Int)} {i q : Nat} (h : q < ps.length) : (rvl ps i).getD q (0, 0) = if q < i ∨ ps.length ≤ q + i then ps.getD (ps.length - 1 - q) (0, 0) else ps.getD q (0, 0) := by
  rw [getD_lt (by rw [rvl_len]; exact h)]; simp [rvl]
theorem rvl_0 (ps : List (Int × Int)) : rvl ps 0 = ps := by
  refine ext_getD (rvl_len ps 0) fun i hi => ?_
  rw [rvl_len] at hi
  rw [rvl_at hi, if_neg (by omega)]
theorem set_at {l : List (Int × Int)} {i j : Nat} {v : Int × Int} (h : j < l.length) : (l.set i v).getD j (0, 0) = if i = j then v else l.getD j (0, 0) := by
  rw [getD_lt (by simpa using h), getD_lt h, List.getElem_set]
theorem rvl_next {ps : List (Int × Int)} {i j : Nat} (hj : i + j + 1 = ps.length) (hl : i < j) : ((rvl ps i).set i ((rvl ps i).getD j (0, 0))).set j ((rvl ps i).getD i (0, 0)) = rvl ps (i + 1) := by
  refine ext_getD (by simp [rvl_len]) fun q hq => ?_
  have hq' : q < ps.length := by simpa [rvl_len] using hq
  rw [set_at (by simpa [rvl_len] using hq'), set_at (by rw [rvl_len]; exact hq'), rvl_at hq', rvl_at (by omega), rvl_at (by omega), rvl_at hq']
  by_cases h1 : j = q
  · subst h1
    rw [if_pos rfl, if_neg (by omega), if_pos (by omega)]
    congr 1; omega
  · rw [if_neg h1]
    by_cases h2 : i = q
    · subst h2
      rw [if_pos rfl, if_neg (by omega), if_pos (by omega)]
      congr 1; omega
    · rw [if_neg h2]
      by_cases h3 : q < i ∨ ps.length ≤ q + i
      · rw [if_pos h3, if_pos (by omega)]
      · rw [if_neg h3, if_neg (by omega)]
theorem rev_at {ps : List (Int × Int)} {q : Nat} (h : q < ps.length) : ps.reverse.getD q (0, 0) = ps.getD (ps.length - 1 - q) (0, 0) := by
  rw [getD_lt (by simpa using h), List.getElem_reverse, getD_lt (by omega)]
theorem rvl_end {ps : List (Int × Int)} {i j : Nat} (hj : i + j + 1 = ps.length) (hl : ¬ i < j) : rvl ps i = ps.reverse := by
  refine ext_getD (by simp [rvl_len]) fun q hq => ?_
  have hq' : q < ps.length := by simpa [rvl_len] using hq
  rw [rvl_at hq', rev_at hq']
  split
  · rfl
  · congr 1; omega
/-- a point ahead of another one -/
def befP (a b : Int × Int) : Bool := decide (pcmp a.1 a.2 b.1 b.2 < 0)
theorem befP_iff (a b : Int × Int) : befP a b = true ↔ a.1 < b.1 ∨ (a.1 = b.1 ∧ a.2 < b.2) := by
  unfold befP; rw [pcmp_form, decide_eq_true_iff]; (repeat' split) <;> omega
/-- the least of the first i points -/
def mnP (ps : List (Int × Int)) : Nat → Int × Int
  | 0 => ps.getD 0 (0, 0)
  | i + 1 => if befP (ps.getD (i + 1) (0, 0)) (mnP ps i) = true then ps.getD (i + 1) (0, 0) else mnP ps i
theorem mnP_y {ps : List (Int × Int)} {i : Nat} {a b : Int} (ha : a = (mnP ps i).1) (hb : b = (mnP ps i).2) (h : decide (pcmp (ps.getD (i + 1) (0, 0)).1 (ps.getD (i + 1) (0, 0)).2 a b < 0) = true) : ps.getD (i + 1) (0, 0) = mnP ps (i + 1) := by
  subst ha hb; exact (if_pos h).symm
theorem mnP_n {ps : List (Int × Int)} {i : Nat} {a b : Int} (ha : a = (mnP ps i).1) (hb : b = (mnP ps i).2) (h : decide (pcmp (ps.getD (i + 1) (0, 0)).1 (ps.getD (i + 1) (0, 0)).2 a b < 0) = false) : (a, b) = mnP ps (i + 1) := by
  subst ha hb; exact (if_neg (by unfold befP; rw [h]; decide)).symm
theorem mnP_spec (ps : List (Int × Int)) : ∀ i, (∃ j, j ≤ i ∧ mnP ps i = ps.getD j (0, 0)) ∧ ∀ j, j ≤ i → befP (ps.getD j (0, 0)) (mnP ps i) = false
  | 0 => ⟨⟨0, Nat.le_refl 0, rfl⟩, fun j hj => by
      rw [show j = 0 by omega]
      rcases Bool.eq_false_or_eq_true (befP (ps.getD 0 (0, 0)) (mnP ps 0)) with h | h
      · have := (befP_iff _ _).1 h; simp only [mnP] at this; omega
      · exact h⟩
  | i + 1 => by
    obtain ⟨⟨j, hj, e⟩, h⟩ := mnP_spec ps i
    have hn : ∀ a b : Int × Int, befP a b = false ↔ ¬ (a.1 < b.1 ∨ (a.1 = b.1 ∧ a.2 < b.2)) := fun a b => by rw [← befP_iff]; simp
    rcases Bool.eq_false_or_eq_true (befP (ps.getD (i + 1) (0, 0)) (mnP ps i)) with q | q
    · have em : mnP ps (i + 1) = ps.getD (i + 1) (0, 0) := if_pos q
      rw [em]
      refine ⟨⟨i + 1, Nat.le_refl _, rfl⟩, fun k hk => ?_⟩
      rw [hn]
      rcases Nat.eq_or_lt_of_le hk with rfl | hk
      · omega
      · have a := (hn _ _).1 (h k (by omega)); have b := (befP_iff _ _).1 q
        omega
    · have em : mnP ps (i + 1) = mnP ps i := if_neg (by rw [q]; decide)
      rw [em]
      refine ⟨⟨j, by omega, e⟩, fun k hk => ?_⟩
      rcases Nat.eq_or_lt_of_le hk with rfl | hk
      · exact q
      · exact h k (by omega)
def eqTo (a q : Int × Int) : Bool := (a.1 == q.1) && ((a.2 == q.2) && true)
theorem eqTo_iff (a q : Int × Int) : eqTo a q = true ↔ a = q := by
  unfold eqTo; simp [Prod.ext_iff]
/-- a ring written from the place a on -/
def rotL (ps : List (Int × Int)) (a : Nat) : List (Int × Int) := ps.drop a ++ ps.take a
theorem rotL_len {ps : List (Int × Int)} {a : Nat} (h : a ≤ ps.length) : (rotL ps a).length = ps.length := by simp [rotL]; omega
theorem rotL_at {ps : List (Int × Int)} {a k : Nat} (h : a < ps.length) (hk : k < ps.length) : (rotL ps a).getD k (0, 0) = ps.getD ((a + k) % ps.length) (0, 0) := by
  rw [getD_lt (by rw [rotL_len (by omega)]; exact hk)]
  unfold rotL
  by_cases c : k < ps.length - a
  · rw [List.getElem_append_left (by simpa using c), List.getElem_drop, Nat.mod_eq_of_lt (by omega), getD_lt (by omega)]
  · rw [List.getElem_append_right (by simp; omega), List.getElem_take, getD_lt (Nat.mod_lt _ (by omega))]
    congr 1
    rw [List.length_drop, show a + k = (k - (ps.length - a)) + ps.length by omega, Nat.add_mod_right, Nat.mod_eq_of_lt (by omega)]
/-- so many corners from the place a on, each some steps farther -/
def stepL (ps : List (Int × Int)) (a s m : Nat) : List (Int × Int) := (List.range m).map fun k => ps.getD ((a + k * s) % ps.length) (0, 0)
theorem stepL_next {ps : List (Int × Int)} {a s m j : Nat} (hj : (a + m * s) % ps.length = j) {l : List Value} (hl : ptc (ps.getD j (0, 0)) = l) : (stepL ps a s m).flatMap ptc ++ l = (stepL ps a s (m + 1)).flatMap ptc := by
  subst hj; subst hl
  unfold stepL
  rw [List.range_succ, List.map_append, List.flatMap_append]; simp
theorem stepL_one {ps : List (Int × Int)} {a s j : Nat} (hj : (a + 0 * s) % ps.length = j) {l : List Value} (hl : ptc (ps.getD j (0, 0)) = l) : (stepL ps a s 1).flatMap ptc = l := by
  have := stepL_next (m := 0) hj hl
  simpa [stepL] using this.symm
/-- all corners are different -/
def Diff (ps : List (Int × Int)) : Prop := ∀ i j, i < j → j < ps.length → ps.getD i (0, 0) ≠ ps.getD j (0, 0)
theorem diff_eq {ps : List (Int × Int)} (h : Diff ps) {i j : Nat} (hi : i < ps.length) (hj : j < ps.length) (e : ps.getD i (0, 0) = ps.getD j (0, 0)) : i = j := by
  rcases Nat.lt_trichotomy i j with q | q | q
  · exact absurd e (h i j q hj)
  · exact q
  · exact absurd e.symm (h j i q hi)
theorem onb_end (ax ay bx b_y : Int) : onb ax ay bx b_y ax ay = true := on_start ax ay bx b_y
theorem meet_end {ax ay bx b_y cx cy dx dy : Int} (h : onb cx cy dx dy ax ay = true) : meetN ax ay bx b_y cx cy dx dy > 0 := by
  unfold meetN
  split
  · decide
  · have hm : (ax, ay) ∈ shr ax ay bx b_y cx cy dx dy := mem_shr.2 (.inl ⟨rfl, h⟩)
    have := List.length_pos_of_mem hm
    unfold mn; split <;> omega
theorem chk_diff {ps : List (Int × Int)} (h : chkF ps = 0) : (3 ≤ ps.length ∧ ps.length ≤ 200) ∧ Diff ps := by
  unfold chkF at h
  split at h
  · cases h
  · rename_i c1
    split at h
    · cases h
    · rename_i c2
      split at h
      · cases h
      · split at h
        · rename_i c4
          have hn : 3 ≤ ps.length ∧ ps.length ≤ 200 := by simp only [decide_eq_true_eq] at c1 c2; omega
          refine ⟨hn, fun a b hab hb e => ?_⟩
          have ap := all_at (all_at c4 hb) hab
          have hE : ∀ k k2, ps.getD k (0, 0) = ps.getD k2 (0, 0) → eqP ps k k2 = true := fun k k2 e => by unfold eqP gx gy; rw [e]; simp
          have bp : meetN (cA ps a) (cB ps a) (cA ps ((a + 1) % ps.length)) (cB ps ((a + 1) % ps.length)) (cA ps b) (cB ps b) (cA ps ((b + 1) % ps.length)) (cB ps ((b + 1) % ps.length)) > 0 := by
            refine meet_end ?_
            have e1 : cA ps a = cA ps b := by unfold cA; rw [e]
            have e2 : cB ps a = cB ps b := by unfold cB; rw [e]
            rw [e1, e2]; exact on_start _ _ _ _
          have ap' : apF ps a ((a + 1) % ps.length) b ((b + 1) % ps.length) = true := ap
          by_cases h1 : a + 1 = b
          · rw [apF_1 (hE _ _ (by rw [Nat.mod_eq_of_lt (show a + 1 < ps.length by omega), h1]; exact e))] at ap'; cases ap'
          · by_cases h2 : a = 0 ∧ b + 1 = ps.length
            · have : eqP ps b ((b + 1) % ps.length) = true := hE _ _ (by rw [h2.2, Nat.mod_self, ← h2.1]; exact e.symm)
              unfold apF at ap'; rw [this] at ap'; simp at ap'
            · have hb2 : (b + 1) % ps.length = if b + 1 = ps.length then 0 else b + 1 := by
                split
                · rename_i h; rw [h, Nat.mod_self]
                · exact Nat.mod_eq_of_lt (by omega)
              have bp' : mnE ps a ((a + 1) % ps.length) b ((b + 1) % ps.length) > 0 := bp
              unfold apF at ap'
              generalize mnE ps a ((a + 1) % ps.length) b ((b + 1) % ps.length) = M at *
              have t1 : (((a : Nat) : Int) + 1 == ((b : Nat) : Int)) = false := by rw [beq_eq_false_iff_ne]; omega
              have t2 : ((((b + 1) % ps.length : Nat) : Int) == ((a : Nat) : Int)) = false := by rw [hb2, beq_eq_false_iff_ne]; split <;> omega
              rw [t1, t2] at ap'
              generalize eqP ps a ((a + 1) % ps.length) = E1 at *
              generalize eqP ps b ((b + 1) % ps.length) = E2 at *
              cases E1 <;> cases E2 <;> simp at ap'
              omega
        · cases h
/-- the place of the least corner -/
theorem least_ex {ps : List (Int × Int)} (hn : 1 ≤ ps.length) : ∃ m, m < ps.length ∧ mnP ps (ps.length - 1) = ps.getD m (0, 0) ∧ ∀ j, j < ps.length → befP (ps.getD j (0, 0)) (ps.getD m (0, 0)) = false := by
  obtain ⟨⟨j, hj, e⟩, h⟩ := mnP_spec ps (ps.length - 1)
  exact ⟨j, by omega, e, fun k hk => by rw [← e]; exact h k (by omega)⟩
theorem bef_tot {a b : Int × Int} (h1 : befP a b = false) (h2 : befP b a = false) : a = b := by
  have e1 : ¬ (a.1 < b.1 ∨ (a.1 = b.1 ∧ a.2 < b.2)) := by rw [← befP_iff, h1]; decide
  have e2 : ¬ (b.1 < a.1 ∨ (b.1 = a.1 ∧ b.2 < a.2)) := by rw [← befP_iff, h2]; decide
  exact Prod.ext (by omega) (by omega)
theorem ix_eq {ps : List (Int × Int)} (hd : Diff ps) {m : Nat} (hm : m < ps.length) : ixF (eqTo (ps.getD m (0, 0))) ps 0 = ((m : Nat) : Int) := by
  rcases ixF_bd (eqTo (ps.getD m (0, 0))) ps ps.length 0 (by omega) with ⟨_, h2⟩ | ⟨j, _, h2, h3, h4, _⟩
  · rw [List.drop_zero, List.any_eq_false] at h2
    have := h2 (ps.getD m (0, 0)) (by rw [getD_lt hm]; exact List.getElem_mem hm)
    rw [(eqTo_iff _ _).2 rfl] at this; simp at this
  · rw [h3, diff_eq hd hm h2 ((eqTo_iff _ _).1 h4)]
theorem diff_rev {ps : List (Int × Int)} (h : Diff ps) : Diff ps.reverse := by
  intro i j hij hj e
  rw [List.length_reverse] at hj
  rw [rev_at (by omega), rev_at hj] at e
  exact h (ps.length - 1 - j) (ps.length - 1 - i) (by omega) (by omega) e.symm
/-- what Norm answers of different corners -/
def nrmL (ps : List (Int × Int)) (m : Nat) : List (Int × Int) := if twF ps 1 0 < 0 then rotL ps.reverse (ps.length - 1 - m) else rotL ps m
theorem step_one {ps : List (Int × Int)} {m : Nat} (hm : m < ps.length) : stepL ps m 1 ps.length = rotL ps m := by
  refine ext_getD (by rw [rotL_len (by omega)]; simp [stepL]) fun k hk => ?_
  have hk' : k < ps.length := by simpa [stepL] using hk
  rw [rotL_at hm hk', getD_lt hk]; simp [stepL]
theorem step_back {ps : List (Int × Int)} {m : Nat} (hm : m < ps.length) : stepL ps m (ps.length - 1) ps.length = rotL ps.reverse (ps.length - 1 - m) := by
  refine ext_getD (by rw [rotL_len (by simp; omega)]; simp [stepL]) fun k hk => ?_
  have hk' : k < ps.length := by simpa [stepL] using hk
  rw [rotL_at (by simp; omega) (by simpa using hk'), List.length_reverse, rev_at (Nat.mod_lt _ (by omega)), getD_lt hk]
  simp only [stepL, List.getElem_map, List.getElem_range]
  congr 1
  obtain ⟨n, hn⟩ : ∃ n, ps.length = n + 1 := ⟨ps.length - 1, by omega⟩
  rw [hn] at hm hk' ⊢
  rw [show n + 1 - 1 = n by omega]
  by_cases c : k ≤ m
  · rw [Nat.mod_eq_of_lt (show n - m + k < n + 1 by omega), show m + k * n = (m - k) + k * (n + 1) by rw [Nat.mul_succ]; omega, Nat.add_mul_mod_self_right, Nat.mod_eq_of_lt (by omega)]; omega
  · obtain ⟨q, rfl⟩ : ∃ q, k = m + 1 + q := ⟨k - m - 1, by omega⟩
    rw [show n - m + (m + 1 + q) = q + (n + 1) by omega, Nat.add_mod_right, show q % (n + 1) = q from Nat.mod_eq_of_lt (by omega)]
    have e : m + (m + 1 + q) * n = (n - q) + (m + q) * (n + 1) := by
      have : (m + 1 + q) * n = (m + q) * n + n := by rw [show m + 1 + q = (m + q) + 1 by omega, Nat.succ_mul]
      rw [this, Nat.mul_succ]; omega
    rw [e, Nat.add_mul_mod_self_right, Nat.mod_eq_of_lt (by omega)]
section
variable {ps : List (Int × Int)} {m q i : Nat}
theorem min_pt (hm : m < ps.length) (hl : ∀ j, j < ps.length → befP (ps.getD j (0, 0)) (ps.getD m (0, 0)) = false) : mnP ps (ps.length - 1) = ps.getD m (0, 0) := by
  obtain ⟨j, hj, e, h⟩ := least_ex (ps := ps) (by omega)
  rw [e]
  exact bef_tot (hl j hj) (h m hm)
theorem ix_plain (hm : m < ps.length) (hd : Diff ps) (hl : ∀ j, j < ps.length → befP (ps.getD j (0, 0)) (ps.getD m (0, 0)) = false) : ixF (eqTo ((mnP ps (ps.length - 1)).1, (mnP ps (ps.length - 1)).2)) ps 0 = ((m : Nat) : Int) := by
  rw [min_pt hm hl]; exact ix_eq hd hm
theorem ix_rev (hm : m < ps.length) (hd : Diff ps) (hl : ∀ j, j < ps.length → befP (ps.getD j (0, 0)) (ps.getD m (0, 0)) = false) (hq : ps.length - 1 - m = q) : ixF (eqTo ((mnP ps.reverse (ps.length - 1)).1, (mnP ps.reverse (ps.length - 1)).2)) ps.reverse 0 = ((q : Nat) : Int) := by
  have hq' : q < ps.reverse.length := by rw [List.length_reverse]; omega
  have e : ps.reverse.getD q (0, 0) = ps.getD m (0, 0) := by rw [rev_at (by omega)]; congr 1; omega
  have := ix_plain (ps := ps.reverse) (m := q) hq' (diff_rev hd) (fun j hj => by rw [List.length_reverse] at hj; rw [e, rev_at hj]; exact hl _ (by omega))
  rw [List.length_reverse] at this; exact this
theorem nrm_rev (ht : twF ps 1 0 < 0) (hq : ps.length - 1 - m = q) : nrmL ps m = rotL ps.reverse q := by subst hq; exact if_pos ht
theorem nrm_pl (ht : ¬ twF ps 1 0 < 0) : nrmL ps m = rotL ps m := if_neg ht
theorem any_lt (hm : m < ps.length) (hl : ∀ j, j < ps.length → befP (ps.getD j (0, 0)) (ps.getD m (0, 0)) = false) (hi : i ≤ m) (h : ps.any (fun q => befP q (ps.getD i (0, 0))) = true) : i + 1 ≤ m := by
  rcases Nat.eq_or_lt_of_le hi with rfl | hi
  · obtain ⟨p, hp, hb⟩ := List.any_eq_true.1 h
    obtain ⟨j, hj, e⟩ := List.mem_iff_getElem.1 hp
    have := hl j hj
    rw [getD_lt hj, e, hb] at this; cases this
  · exact hi
theorem any_eq (hm : m < ps.length) (hd : Diff ps) (hl : ∀ j, j < ps.length → befP (ps.getD j (0, 0)) (ps.getD m (0, 0)) = false) (hi : i ≤ m) (h : ps.any (fun q => befP q (ps.getD i (0, 0))) = false) : i = m := by
  refine diff_eq hd (by omega) hm (bef_tot (hl i (by omega)) ?_)
  have := List.any_eq_false.1 h (ps.getD m (0, 0)) (by rw [getD_lt hm]; exact List.getElem_mem hm)
  simpa using this
/-- the document's way to write the normal form -/
theorem nrm_step (hm : m < ps.length) : (twF ps 1 0 < 0 → stepL ps m (ps.length - 1) ps.length = nrmL ps m) ∧ (¬ twF ps 1 0 < 0 → stepL ps m 1 ps.length = nrmL ps m) :=
  ⟨fun h => by rw [nrm_rev h rfl, step_back hm], fun h => by rw [nrm_pl h, step_one hm]⟩
theorem nrm_len (hm : m < ps.length) : (nrmL ps m).length = ps.length := by
  unfold nrmL; split
  · rw [rotL_len (by simp; omega), List.length_reverse]
  · rw [rotL_len (by omega)]
end
end Go.Proofs.YtngmegnaohmapaaDoor.Am.Sp

