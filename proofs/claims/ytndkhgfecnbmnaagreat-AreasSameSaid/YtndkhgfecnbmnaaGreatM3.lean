import Derived.Test.YtndkhgfecnbmnaaGreatM2
import Derived.SizedLaws
import Derived.Laws.MakeOwn
import Derived.Lib.AppendZeros
import Derived.Test.YtndkhgfecnbmnaaGreatProg
set_option linter.unusedVariables false
set_option linter.unusedSimpArgs false
namespace Go.Proofs.YtndkhgfecnbmnaaGreat.Am.Sp
/-- the edge crosses the ray to the right -/
def crR (x y u v : Int) : Bool := if y > v then decide (v < 0) && (decide (0 ≤ y) && decide (u * y - v * x > 0)) else decide (y < 0) && (decide (0 ≤ v) && decide (x * v - y * u > 0))
theorem crR_iff (x y u v : Int) : crR x y u v = true ↔ (v < y ∧ (v < 0 ∧ 0 ≤ y) ∧ y * u - x * v > 0) ∨ (y ≤ v ∧ (y < 0 ∧ 0 ≤ v) ∧ x * v - y * u > 0) := by
  have e1 : u * y - v * x = y * u - x * v := by grind
  unfold crR
  rw [e1]
  split <;> simp only [Bool.and_eq_true, decide_eq_true_eq] <;> omega
end Go.Proofs.YtndkhgfecnbmnaaGreat.Am.Sp
set_option linter.unusedVariables false
set_option linter.unusedSimpArgs false
namespace Go.Proofs.YtndkhgfecnbmnaaGreat.Am.Sp
def xorp (f : Int × Int → Int × Int → Bool) : Int × Int → List (Int × Int) → Bool
  | _, [] => false
  | a, b :: r => f a b != xorp f b r
def lastp : Int × Int → List (Int × Int) → Int × Int
  | a, [] => a
  | _, b :: r => lastp b r
/-- the edges of a line, seen from the point p -/
def cR (p a b : Int × Int) : Bool := crR (a.1 - p.1) (a.2 - p.2) (b.1 - p.1) (b.2 - p.2)
end Go.Proofs.YtndkhgfecnbmnaaGreat.Am.Sp
set_option linter.unusedVariables false
set_option linter.unusedSimpArgs false
namespace Go.Proofs.YtndkhgfecnbmnaaGreat.Am.Sp
def onany (p : Int × Int) : Int × Int → List (Int × Int) → Bool
  | _, [] => false
  | a, b :: r => onb a.1 a.2 b.1 b.2 p.1 p.2 || onany p b r
def hasv (p a : Int × Int) (l : List (Int × Int)) : Int := if onany p a l = true then 0 else if xorp (cR p) a l = true then 1 else -1
def move2 (d a : Int × Int) : Int × Int := (a.1 + d.1, a.2 + d.2)
theorem onb_move2 (d a b p : Int × Int) : onb (move2 d a).1 (move2 d a).2 (move2 d b).1 (move2 d b).2 (move2 d p).1 (move2 d p).2 = onb a.1 a.2 b.1 b.2 p.1 p.2 := by
  rw [Bool.eq_iff_iff, onb_iff, onb_iff]
  have e1 : crs (move2 d a).1 (move2 d a).2 (move2 d b).1 (move2 d b).2 (move2 d p).1 (move2 d p).2 = crs a.1 a.2 b.1 b.2 p.1 p.2 := by unfold move2 crs; grind
  have e2 : dot (move2 d p).1 (move2 d p).2 (move2 d a).1 (move2 d a).2 (move2 d b).1 (move2 d b).2 = dot p.1 p.2 a.1 a.2 b.1 b.2 := by unfold move2 dot; grind
  rw [e1, e2]
end Go.Proofs.YtndkhgfecnbmnaaGreat.Am.Sp
set_option linter.unusedVariables false
set_option linter.unusedSimpArgs false
namespace Go.Proofs.YtndkhgfecnbmnaaGreat.Am.Sp
def limp (q : Int × Int) : Int × Int := (lim 1048576 q.1, lim 1048576 q.2)
/-- the test of an edge, as the code makes it -/
def crX (ax ay bx by_ x y : Int) : Bool := if ay > by_ then decide (by_ < y) && (decide (y ≤ ay) && decide (cmp (crs bx by_ ax ay x y) 0 > 0)) else decide (ay < y) && (decide (y ≤ by_) && decide (cmp (crs ax ay bx by_ x y) 0 > 0))
def cA (ps : List (Int × Int)) (i : Nat) : Int := lim 1048576 (ps.getD i (0, 0)).1
def cB (ps : List (Int × Int)) (i : Nat) : Int := lim 1048576 (ps.getD i (0, 0)).2
def hasF (ps : List (Int × Int)) (x y : Int) (i : Nat) (out : Int) : Int :=
  if i < ps.length then
    if onb (cA ps i) (cB ps i) (cA ps ((i + 1) % ps.length)) (cB ps ((i + 1) % ps.length)) x y = true then 0
    else hasF ps x y (i + 1) (if crX (cA ps i) (cB ps i) (cA ps ((i + 1) % ps.length)) (cB ps ((i + 1) % ps.length)) x y = true then 0 - out else out)
  else out
termination_by ps.length - i
theorem hasF_end {ps : List (Int × Int)} {x y : Int} {i : Nat} {out : Int} (h : ¬ i < ps.length) : hasF ps x y i out = out := by rw [hasF, if_neg h]
theorem hasF_on {ps : List (Int × Int)} {x y : Int} {i j : Nat} {out : Int} (h : i < ps.length) (hj : (i + 1) % ps.length = j) (o : onb (cA ps i) (cB ps i) (cA ps j) (cB ps j) x y = true) : hasF ps x y i out = 0 := by
  rw [hasF, if_pos h, hj, if_pos o]
theorem hasF_cr {ps : List (Int × Int)} {x y : Int} {i j : Nat} {out : Int} (h : i < ps.length) (hj : (i + 1) % ps.length = j) (o : onb (cA ps i) (cB ps i) (cA ps j) (cB ps j) x y = false) (c : crX (cA ps i) (cB ps i) (cA ps j) (cB ps j) x y = true) : hasF ps x y (i + 1) (0 - out) = hasF ps x y i out := by
  conv => rhs; rw [hasF, if_pos h, hj, if_neg (by rw [o]; decide), if_pos c]
theorem hasF_no {ps : List (Int × Int)} {x y : Int} {i j : Nat} {out : Int} (h : i < ps.length) (hj : (i + 1) % ps.length = j) (o : onb (cA ps i) (cB ps i) (cA ps j) (cB ps j) x y = false) (c : crX (cA ps i) (cB ps i) (cA ps j) (cB ps j) x y = false) : hasF ps x y (i + 1) out = hasF ps x y i out := by
  conv => rhs; rw [hasF, if_pos h, hj, if_neg (by rw [o]; decide), if_neg (by rw [c]; decide)]
variable {ax ay bx b_y x y : Int}
theorem crX_d1 (h : decide (ay > b_y) = true) (h1 : decide (b_y < y) = false) : crX ax ay bx b_y x y = false := by unfold crX; rw [if_pos (of_decide_eq_true h), h1]; rfl
theorem crX_d2 (h : decide (ay > b_y) = true) (h1 : decide (b_y < y) = true) (h2 : decide (y ≤ ay) = false) : crX ax ay bx b_y x y = false := by unfold crX; rw [if_pos (of_decide_eq_true h), h1, h2]; rfl
theorem crX_d3 (h : decide (ay > b_y) = true) (h1 : decide (b_y < y) = true) (h2 : decide (y ≤ ay) = true) (h3 : decide (cmp (crs bx b_y ax ay x y) 0 > 0) = false) : crX ax ay bx b_y x y = false := by unfold crX; rw [if_pos (of_decide_eq_true h), h1, h2, h3]; rfl
theorem crX_d4 (h : decide (ay > b_y) = true) (h1 : decide (b_y < y) = true) (h2 : decide (y ≤ ay) = true) (h3 : decide (cmp (crs bx b_y ax ay x y) 0 > 0) = true) : crX ax ay bx b_y x y = true := by unfold crX; rw [if_pos (of_decide_eq_true h), h1, h2, h3]; rfl
theorem crX_u1 (h : decide (ay > b_y) = false) (h1 : decide (ay < y) = false) : crX ax ay bx b_y x y = false := by unfold crX; rw [if_neg (of_decide_eq_false h), h1]; rfl
theorem crX_u2 (h : decide (ay > b_y) = false) (h1 : decide (ay < y) = true) (h2 : decide (y ≤ b_y) = false) : crX ax ay bx b_y x y = false := by unfold crX; rw [if_neg (of_decide_eq_false h), h1, h2]; rfl
theorem crX_u3 (h : decide (ay > b_y) = false) (h1 : decide (ay < y) = true) (h2 : decide (y ≤ b_y) = true) (h3 : decide (cmp (crs ax ay bx b_y x y) 0 > 0) = false) : crX ax ay bx b_y x y = false := by unfold crX; rw [if_neg (of_decide_eq_false h), h1, h2, h3]; rfl
theorem crX_u4 (h : decide (ay > b_y) = false) (h1 : decide (ay < y) = true) (h2 : decide (y ≤ b_y) = true) (h3 : decide (cmp (crs ax ay bx b_y x y) 0 > 0) = true) : crX ax ay bx b_y x y = true := by unfold crX; rw [if_neg (of_decide_eq_false h), h1, h2, h3]; rfl
theorem cmpd_pos (n : Int) : decide (cmp n 0 > 0) = decide (0 < n) := by unfold cmp; split <;> (try split) <;> simp <;> omega
/-- the test is the crossing of the ray to the right, seen from the point -/
theorem crX_cR (ax ay bx b_y x y : Int) : crX ax ay bx b_y x y = cR (x, y) (ax, ay) (bx, b_y) := by
  rw [Bool.eq_iff_iff]; unfold cR; rw [crR_iff]; unfold crX
  rw [cmpd_pos, cmpd_pos]
  have e1 : crs bx b_y ax ay x y = (ay - y) * (bx - x) - (ax - x) * (b_y - y) := by unfold crs; grind
  have e2 : crs ax ay bx b_y x y = (ax - x) * (b_y - y) - (ay - y) * (bx - x) := by unfold crs; grind
  rw [e1, e2]
  generalize (ay - y) * (bx - x) = P
  generalize (ax - x) * (b_y - y) = Q
  split <;> simp only [Bool.and_eq_true, decide_eq_true_eq] <;> omega
theorem getD_lt {l : List (Int × Int)} {i : Nat} {d : Int × Int} (h : i < l.length) : l.getD i d = l[i] := by simp [List.getD, h]
theorem hasF_line (ps : List (Int × Int)) (x y : Int) (b0 : Int × Int) (rest : List (Int × Int)) (hp : ps = b0 :: rest) : ∀ (k i : Nat) (out : Int), i + k = ps.length →
    hasF ps x y i out = if onany (x, y) ((ps.map limp ++ [limp b0]).getD i (0, 0)) ((ps.map limp ++ [limp b0]).drop (i + 1)) = true then 0 else if xorp (cR (x, y)) ((ps.map limp ++ [limp b0]).getD i (0, 0)) ((ps.map limp ++ [limp b0]).drop (i + 1)) = true then 0 - out else out
  | 0, i, out, h => by
    rw [hasF_end (by omega), List.drop_of_length_le (by simp; omega)]
    simp [onany, xorp]
  | k + 1, i, out, h => by
    have hlt : i < ps.length := by omega
    have hM : (ps.map limp ++ [limp b0]).length = ps.length + 1 := by simp
    have hd : (ps.map limp ++ [limp b0]).drop (i + 1) = (ps.map limp ++ [limp b0]).getD (i + 1) (0, 0) :: (ps.map limp ++ [limp b0]).drop (i + 2) := by
      rw [List.drop_eq_getElem_cons (by omega), getD_lt (by omega)]
    have ha : (ps.map limp ++ [limp b0]).getD i (0, 0) = (cA ps i, cB ps i) := by
      rw [getD_lt (by omega), List.getElem_append_left (by simpa using hlt), List.getElem_map]
      unfold cA cB limp; rw [getD_lt hlt]
    have hb : (ps.map limp ++ [limp b0]).getD (i + 1) (0, 0) = (cA ps ((i + 1) % ps.length), cB ps ((i + 1) % ps.length)) := by
      by_cases e : i + 1 = ps.length
      · rw [e, Nat.mod_self, getD_lt (by omega), List.getElem_append_right (by simp)]
        unfold cA cB; subst hp; simp [limp]
      · have hl : i + 1 < ps.length := by omega
        rw [Nat.mod_eq_of_lt hl, getD_lt (by omega), List.getElem_append_left (by simpa using hl), List.getElem_map]
        unfold cA cB limp; rw [getD_lt hl]
    have ih := hasF_line ps x y b0 rest hp k (i + 1)
    rw [hasF, if_pos hlt, ih _ (by omega), hd, onany, xorp, hb, ha, crX_cR]
    generalize onany (x, y) _ _ = O
    generalize xorp _ _ _ = X
    generalize onb _ _ _ _ _ _ = o
    generalize cR _ _ _ = c
    cases O <;> cases X <;> cases o <;> cases c <;> simp <;> omega
/-- what ring.Has answers of a ring that is not empty -/
theorem hasF_eq (a : Int × Int) (t : List (Int × Int)) (x y : Int) : hasF (a :: t) x y 0 (-1) = hasv (x, y) (limp a) (t.map limp ++ [limp a]) := by
  rw [hasF_line (a :: t) x y a t rfl (a :: t).length 0 (-1) (by omega)]
  rfl
end Go.Proofs.YtndkhgfecnbmnaaGreat.Am.Sp

namespace Go.Proofs.YtndkhgfecnbmnaaGreat.Am
open Go
set_option linter.unusedVariables false
def renS : List (Nat × Nat) → Nat → Nat
  | [], k => k
  | (a, b) :: l, k => bif Nat.beq k a then b else renS l k
def RenT (σ : Nat → Nat) (p : Nat → Prop) : List (Nat × Value) → List (Nat × Value) → Prop
  | [], [] => True
  | (t, v) :: l, (t0, v0) :: l0 => t = t0 ∧ RenV σ p v v0 ∧ RenT σ p l l0
  | _, _ => False
theorem RenT.left {σ : Nat → Nat} {p : Nat → Prop} {l l0 : List (Nat × Value)} (h : RenT σ p l l0) {t : Nat} {v : Value} (hm : (t, v) ∈ l) : ∃ v0, (t, v0) ∈ l0 ∧ RenV σ p v v0 := by
  induction l generalizing l0 with
  | nil => cases hm
  | cons x l ih =>
    cases l0 with
    | nil => exact h.elim
    | cons y l0 =>
      obtain ⟨h1, h2, h3⟩ := h
      cases hm with
      | head => obtain ⟨t0, v0⟩ := y; have h1 : t = t0 := h1; subst h1; exact ⟨v0, List.mem_cons_self, h2⟩
      | tail _ hm => obtain ⟨v0, a, b⟩ := ih h3 hm; exact ⟨v0, List.mem_cons_of_mem _ a, b⟩
def renChk (m : Nat) (ren : List (Nat × Nat)) (ks : List Nat) : Bool :=
  ren.all (fun x => Nat.ble m x.1) && ks.all (fun i => (Nat.blt i m || Nat.ble m (renS ren i)) && ks.all (fun j => Nat.beq i j || !Nat.beq (renS ren i) (renS ren j)))
theorem renS_lt {m : Nat} {ren : List (Nat × Nat)} (h : ren.all (fun x => Nat.ble m x.1) = true) {k : Nat} (hk : k < m) : renS ren k = k := by
  induction ren with
  | nil => rfl
  | cons x l ih =>
    obtain ⟨a, b⟩ := x
    rw [List.all_cons, Bool.and_eq_true] at h
    have h1 := Nat.le_of_ble_eq_true h.1
    have : Nat.beq k a = false := by
      cases hb : Nat.beq k a with
      | false => rfl
      | true => have := Nat.eq_of_beq_eq_true hb; have h1 : m ≤ a := h1; omega
    simp only [renS, this, cond_false]
    exact ih h.2
theorem weak_ren {C : Ctx} {S : St} {T T0 : List (Nat × Value)} {L L0 : List (Nat × Blk)} (ren : List (Nat × Nat)) (hT : AllT S T0) (hL : AllH S L0) (rT : RenT (renS ren) (keyB C.m L) T T0) (rL : RenH (renS ren) (keyB C.m L) L L0)
    (hc : renChk C.m ren (L.map (·.1)) = true) : Weak C S (mkSt C.m T L) := by
  unfold renChk at hc
  rw [Bool.and_eq_true] at hc
  obtain ⟨c1, c2⟩ := hc
  have sl : ∀ k, k < C.m → renS ren k = k := fun k hk => renS_lt c1 hk
  have mem : ∀ k, keyB C.m L k → k < C.m ∨ k ∈ L.map (·.1) := fun k hk => by
    unfold keyB at hk
    rw [Bool.or_eq_true] at hk
    exact hk.imp blt_lt any_beq.1
  have inj : ∀ i j, i ∈ L.map (·.1) → j ∈ L.map (·.1) → renS ren i = renS ren j → i = j := fun i j hi hj e => by
    have h := List.all_eq_true.1 c2 i hi
    rw [Bool.and_eq_true] at h
    have h := List.all_eq_true.1 h.2 j hj
    rw [Bool.or_eq_true] at h
    rcases h with h | h
    · exact Nat.eq_of_beq_eq_true h
    · rw [e] at h; simp at h
  intro ρ a w h
  have hdf : ∀ k b, base C.m k ≠ .live b := fun k b e => by unfold base at e; cases hh : Nat.blt k C.m <;> rw [hh] at e <;> cases e
  let ρ' : Ren := fun k => bif (Nat.blt k C.m || (L.map (·.1)).any (Nat.beq k)) then ρ (renS ren k) else none
  have hp : ∀ k, keyB C.m L k → ρ' k = ρ (renS ren k) := fun k hk => by
    have hk' : (Nat.blt k C.m || (L.map (·.1)).any (Nat.beq k)) = true := hk
    simp only [ρ', hk', cond_true]
  have hlive : ∀ k b, ofH (base C.m k) L k = .live b → ∃ b0, S.H (renS ren k) = .live b0 ∧ RenB (renS ren) (keyB C.m L) b b0 ∧ k ∈ L.map (·.1) ∧ keyB C.m L k := fun k b hk => by
    have hm := ofH_live (hdf k) hk
    obtain ⟨b0, m0, r0⟩ := rL.left hm
    have hmem : k ∈ L.map (·.1) := List.mem_map.2 ⟨(k, b), hm, rfl⟩
    exact ⟨b0, hL.mem m0, r0, hmem, by unfold keyB; rw [any_beq.2 hmem]; simp⟩
  refine ⟨ρ', h.size, h.defers, fun t v hv => ?_, ⟨fun k hk => ?_, fun k b hk => ?_, ?_⟩, h.frame, fun k b sp hk ho hsp => ?_, fun k hk => ?_⟩
  · obtain ⟨v0, m0, r0⟩ := rT.left (ofT_some hv)
    obtain ⟨v', h1, h2⟩ := h.temps t v0 (hT.mem m0)
    exact ⟨v', h1, r0.into hp h2⟩
  · have hk2 : ofH (base C.m k) L k = .fresh := hk
    have hn : ¬ (Nat.blt k C.m || (L.map (·.1)).any (Nat.beq k)) = true := fun hb => by
      by_cases hm : k ∈ L.map (·.1)
      · obtain ⟨b, hb'⟩ := ofH_key (d := base C.m k) hm
        rw [hb'] at hk2; cases hk2
      · rw [ofH_nokey hm] at hk2
        rw [Bool.or_eq_true] at hb
        rcases hb with hb | hb
        · unfold base at hk2; rw [hb] at hk2; cases hk2
        · exact hm (any_beq.1 hb)
    simp only [ρ', hn, cond_false]
  · obtain ⟨b0, h1, r0, hm, h3⟩ := hlive k b hk
    obtain ⟨sp, e1, e2⟩ := h.heap.live _ b0 h1
    exact ⟨sp, by rw [hp k h3]; exact e1, r0.into hp e2⟩
  · intro k1 k2 b1 b2 sp1 sp2 hne h1 h2 ho nv e1 e2
    obtain ⟨c1, a1, r1, m1, q1⟩ := hlive k1 b1 h1
    obtain ⟨c2, a2, r2, m2, q2⟩ := hlive k2 b2 h2
    rw [hp k1 q1] at e1
    rw [hp k2 q2] at e2
    exact h.heap.apart _ _ c1 c2 sp1 sp2 (fun e => hne (inj _ _ m1 m2 e)) a1 a2 (by rw [r1.own]; exact ho) (fun v => nv (r2.void.2 v)) e1 e2
  · obtain ⟨b0, a0, r0, _, q⟩ := hlive k b hk
    rw [hp k q] at hsp
    exact h.owned _ b0 sp a0 (by rw [r0.own]; exact ho) hsp
  · obtain ⟨sp, p1, p2⟩ := h.pin k hk
    refine ⟨sp, p1, ?_⟩
    rw [hp k (by unfold keyB; rw [show Nat.blt k C.m = true from Nat.ble_eq_true_of_le hk]; rfl), sl k hk]; exact p2
theorem aw_r {C : Ctx} {P : Program} {Q : Exit → St → Prop} {c : Code} {S : St} (ren : List (Nat × Nat)) (T0 : List (Nat × Value)) (L0 : List (Nat × Blk)) (T : List (Nat × Value)) (L : List (Nat × Blk)) (h : AW C P c (mkSt C.m T L) Q)
    (rT : RenT (renS ren) (keyB C.m L) T T0) (rL : RenH (renS ren) (keyB C.m L) L L0) (hc : renChk C.m ren (L.map (·.1)) = true := by kernel_rfl) (hT : T0.map (fun x => S.T x.1) = T0.map (fun x => some x.2) := by kernel_rfl)
    (hL : L0.map (fun x => S.H x.1) = L0.map (fun x => .live x.2) := by kernel_rfl) : AW C P c S Q := aw_weak (weak_ren ren (allT_of hT) (allH_of hL) rT rL hc) h
section
variable {C : Ctx} {P : Program} {ops : Array Oper} {S : St} {i : Nat}
end
section
variable {C : Ctx} {P : Program} {ops : Array Oper} {S : St} {i : Nat}
/-- what an append looks at -/
def apyAt (P : Program) (ops : Array Oper) (S : St) (i : Nat) : Option (Nat × Nat × Nat × Option Value × Option Value) := match appAt P ops S i with
  | some (x, y, _, e, inf, _) => some (e, inf.size, inf.bytes, ev S x, ev S y)
  | none => none
end
end Go.Proofs.YtndkhgfecnbmnaaGreat.Am
namespace Go.Proofs.YtndkhgfecnbmnaaGreat.Am
open Go Go.RowKit
set_option linter.unusedVariables false
set_option linter.unusedSimpArgs false
section
variable {C : Ctx} {P : Program} {ops : Array Oper} {S : St} {i : Nat}
theorem does_append0 {x y : Operand} {t e : TypeId} {inf : TypeInfo} {zv : Value} {k n c k2 off2 c2 k' : Nat} {b : Blk} (hs : appAt P ops S i = some (x, y, t, e, inf, zv))
    (hx : ev S x = some (.slice (some ⟨k, 0, none⟩) n c)) (hy : ev S y = some (.slice (some ⟨k2, off2, none⟩) 0 c2)) (hH : S.H k = .live b) (hK : S.H k' = .fresh) (hn1 : 1 ≤ n)
    (hz : (b.own && Nat.beq b.elem e && Nat.beq b.step inf.size) = true) :
    Does C P ops i S ⟨[k, k2, k'], .slice (some ⟨k', 0, none⟩) n 0, [(k, .gone), (k', .live ⟨b.cells, e, true, inf.size⟩)]⟩ := by
  obtain ⟨hsh, hu, hi, hzv, hzs⟩ := appAt_spec hs
  refine .of_run hsh fun o ho S' ρ a w hT hH' hr => ?_
  simp only [Bool.and_eq_true] at hz
  obtain ⟨⟨b1, b2'⟩, b3⟩ := hz
  have eel := Nat.eq_of_beq_eq_true b2'
  have est := Nat.eq_of_beq_eq_true b3
  have hrx := ev_rel hr (by rw [hT x (by simp [Op.operands, Call.operands])]; exact hx)
  have hry := ev_rel hr (by rw [hT y (by simp [Op.operands, Call.operands])]; exact hy)
  generalize hax : a.eval x = ax at hrx
  generalize hay : a.eval y = ay at hry
  have hHk : S'.H k = .live b := by rw [hH' k (by simp)]; exact hH
  have hHf : S'.H k' = .fresh := by rw [hH' k' (by simp)]; exact hK
  cases hrx with
  | slice0 => omega
  | slice _ _ _ _ cap sp hk hc1 hs1 =>
    obtain ⟨q1, e1, e2⟩ := hr.heap.live k b hHk
    rw [hk] at e1; cases e1
    have e2' := e2
    rw [BlkOk.own b1] at e2'
    obtain ⟨st, cur, hg, hcs, hcl, hcc⟩ := e2'
    obtain ⟨hle, hm⟩ := Rel.move hr (k := k) (k' := k') (d := 0) (b := b) (b' := ⟨b.cells, e, true, inf.size⟩) hHk b1 hk hHf (by omega) rfl eel.symm est.symm (by show b.cells.length ≤ _; omega) (fun j u hu => by rw [Nat.zero_add]; exact hu)
    have key : ∀ (A : Option Addr) (c : Nat), (Builtin.append_ #[t, t] o.type #[.slice (some ⟨sp.block, sp.off + 0, none⟩) n cap, .slice A 0 c]).run P w = .ok (.slice (some ⟨sp.block, sp.off + 0, none⟩) n cap) w := by
      intro A c
      have hf : (Builtin.firstCells inf.size 0 (.slice A 0 c)).run P w = .ok #[] w := by
        cases A with
        | none => exact run_firstCells_none _ _ _ _ _
        | some A => exact run_firstCells_some (P := P) w inf.size 0 A 0 c [] (by simp) (by simp)
      simp [Builtin.append_, run_underlying hu, sizeOf, typeInfo, hi, Builtin.lenOf, hc1, hf, storeCells]
    have hval : VRel (upd ρ k' (some ⟨sp.block, sp.off + 0, sp.size - 0, sp.step⟩)) (.slice (some ⟨k', 0, none⟩) n 0) (.slice (some ⟨sp.block, sp.off + 0, none⟩) n cap) :=
      .slice k' 0 n 0 cap ⟨sp.block, sp.off + 0, sp.size - 0, sp.step⟩ (upd_self _ _ _) hc1 (by show 0 + cap * sp.step ≤ sp.size - 0; omega)
    cases hry with
    | slice0 _ _ _ A =>
      refine ⟨_, w, _, .slice (some ⟨sp.block, sp.off + 0, none⟩) n cap, ?_, .inl rfl, hval, hm⟩
      have ev1 : (#[x, y] : Array Operand).map a.eval = #[.slice (some ⟨sp.block, sp.off + 0, none⟩) n cap, .slice A 0 0] := by simp [hax, hay]
      simp only [execOp, ho, resolve, ev1, Sem.run_bind, Sem.run_pure, Result.andThen_ok, invoke, builtin, key]
    | slice _ _ _ _ cap2 sp2 hk2 hc2 hs2 =>
      refine ⟨_, w, _, .slice (some ⟨sp.block, sp.off + 0, none⟩) n cap, ?_, .inl rfl, hval, hm⟩
      have ev1 : (#[x, y] : Array Operand).map a.eval = #[.slice (some ⟨sp.block, sp.off + 0, none⟩) n cap, .slice (some ⟨sp2.block, sp2.off + off2, none⟩) 0 cap2] := by simp [hax, hay]
      simp only [execOp, ho, resolve, ev1, Sem.run_bind, Sem.run_pure, Result.andThen_ok, invoke, builtin, key]
end
end Go.Proofs.YtndkhgfecnbmnaaGreat.Am
namespace Go.Proofs.YtndkhgfecnbmnaaGreat.Am
open Go
set_option linter.unusedVariables false
set_option linter.unusedSimpArgs false
section
variable {C : Ctx} {P : Program} {ops : Array Oper} {S : St} {i : Nat}
def mkAt (P : Program) (ops : Array Oper) (S : St) (i : Nat) : Option (TypeId × Nat × Nat × Value × Option Value × Option Value) := match shapeAt ops S i with
  | some (.makeSlice t x y, true) => match sliceElem P t with
    | some e => match P.info? e with
      | some inf => match inf.zero with
        | some z => some (e, inf.size, inf.bytes, z, ev S x, ev S y)
        | none => none
      | none => none
    | none => none
  | _ => none
theorem does_mk (k e z bt : Nat) (n c : Nat) (zv : Value) (cells : List Value) {kl kc : IntKind} {n' c' : Int} (h1 : mkAt P ops S i = some (e, z, bt, zv, some (.int kl n'), some (.int kc c'))) (hk : S.H k = .fresh)
    (hf : cells.all flatB = true) (hc : (madeCells zv.cells (n * z)).toList = cells) (hn : n' = (n : Int)) (hc' : c' = (c : Int)) (hnc : n ≤ c) (hB : bt * c ≤ 140737488355328) (hM : c ≤ 4611686018427387904) :
    Does C P ops i S ⟨[k], .slice (some ⟨k, 0, none⟩) n 0, [(k, .live ⟨cells, e, true, z⟩)]⟩ := by
  subst hn hc'
  unfold mkAt at h1
  split at h1
  · rename_i t x y hs
    split at h1
    · rename_i e' he
      split at h1
      · rename_i inf hi
        split at h1
        · rename_i z' hz
          simp only [Option.some.injEq, Prod.mk.injEq] at h1
          obtain ⟨rfl, rfl, rfl, rfl, hx, hy⟩ := h1
          refine .of_run hs fun o ho S' ρ a w hT hH' hr => ?_
          have hu : P.underlying t = some (.slice e') := sliceElem_spec he
          have hrx := ev_rel hr (by rw [hT x (by simp [Op.operands])]; exact hx)
          have hry := ev_rel hr (by rw [hT y (by simp [Op.operands])]; exact hy)
          generalize hax : a.eval x = ax at hrx
          generalize hay : a.eval y = ay at hry
          cases hrx
          cases hry
          have hB2 : (inf.bytes : Int) * (c : Int) ≤ 281474976710656 := by
            rw [← Int.natCast_mul]; omega
          have hrun := run_make (P := P) w t e' inf z' hu hi hz kl kc (n : Int) (c : Int) (by omega) (by omega) hB2 (by omega)
          rw [Int.toNat_natCast, Int.toNat_natCast] at hrun
          have hle : n * inf.size ≤ c * inf.size := Nat.mul_le_mul_right _ hnc
          subst hc
          obtain ⟨hfr, hrel⟩ := Rel.new hr (by rw [hH' k (by simp)]; exact hk) (cells := (madeCells z'.cells (n * inf.size)).toList) (c := madeCells z'.cells (c * inf.size)) (e := e') (st := inf.size) (by rw [Array.length_toList, size_madeCells, size_madeCells]; exact hle)
            (fun j u hu => by
              have hj := (List.getElem?_eq_some_iff.1 hu).1
              rw [Array.length_toList, size_madeCells] at hj
              have hfl := only_flat (p := fun _ => False) (List.all_eq_true.1 hf u (List.mem_of_getElem? hu))
              refine ⟨u, ?_, .of_only (only_flat (List.all_eq_true.1 hf u (List.mem_of_getElem? hu)))⟩
              rw [Array.getElem?_toList] at hu
              unfold madeCells at hu ⊢
              rw [Array.getElem?_map, Array.getElem?_range] at hu ⊢
              rw [if_pos hj] at hu
              rw [if_pos (by omega)]
              exact hu)
          refine ⟨_, _, _, .slice (some ⟨w.heap.size, 0, none⟩) n c, ?_, .inl rfl, ?_, hrel⟩
          · simp only [execOp, ho, hax, hay, hrun, Sem.run_bind, Sem.run_pure, Result.andThen_ok]
          · refine .slice k 0 n 0 c _ (upd_self _ _ _) hnc ?_
            show 0 + c * inf.size ≤ (madeCells z'.cells (c * inf.size)).size
            rw [size_madeCells]; omega
        · cases h1
      · cases h1
    · cases h1
  · cases h1
end
end Go.Proofs.YtndkhgfecnbmnaaGreat.Am

set_option linter.unusedVariables false
set_option linter.unusedSimpArgs false
namespace Go.Proofs.YtndkhgfecnbmnaaGreat.Am.Sp
open Go
theorem getD_mem {ps : List (Int × Int)} {q : Int × Int} (h : q ∈ ps) : ∃ i, ps.getD i (0, 0) = q := by
  obtain ⟨i, hi, e⟩ := List.mem_iff_getElem.1 h
  exact ⟨i, by rw [getD_lt hi, e]⟩
theorem getD_map {f : Int × Int → Int × Int} {ps : List (Int × Int)} {i : Nat} (h : i < ps.length) : (ps.map f).getD i (0, 0) = f (ps.getD i (0, 0)) := by
  rw [getD_lt (by simpa using h), getD_lt h, List.getElem_map]
/-- all coordinates are small -/
def Few (m : Int) (ps : List (Int × Int)) : Prop := ∀ i, (-m ≤ (ps.getD i (0, 0)).1 ∧ (ps.getD i (0, 0)).1 ≤ m) ∧ (-m ≤ (ps.getD i (0, 0)).2 ∧ (ps.getD i (0, 0)).2 ≤ m)
theorem few_of {m : Int} {ps : List (Int × Int)} (hm : 0 ≤ m) (h : ∀ q ∈ ps, (-m ≤ q.1 ∧ q.1 ≤ m) ∧ (-m ≤ q.2 ∧ q.2 ≤ m)) : Few m ps := by
  intro i
  by_cases hi : i < ps.length
  · rw [getD_lt hi]; exact h _ (List.getElem_mem hi)
  · simp [List.getD, List.getElem?_eq_none (Nat.le_of_not_lt hi)]; omega
theorem few_mem {m : Int} {ps : List (Int × Int)} (h : Few m ps) {q : Int × Int} (hq : q ∈ ps) : (-m ≤ q.1 ∧ q.1 ≤ m) ∧ (-m ≤ q.2 ∧ q.2 ≤ m) := by
  obtain ⟨i, e⟩ := getD_mem hq
  rw [← e]; exact h i
theorem limp_few {q : Int × Int} (h : (-1048576 ≤ q.1 ∧ q.1 ≤ 1048576) ∧ (-1048576 ≤ q.2 ∧ q.2 ≤ 1048576)) : limp q = q := by
  unfold limp; rw [lim_id h.1.1 h.1.2, lim_id h.2.1 h.2.2]
theorem map_limp {m : Int} {ps : List (Int × Int)} (hm : m ≤ 1048576) (h : Few m ps) : ps.map limp = ps := by
  have : ps.map limp = ps.map id := List.map_congr_left fun q hq => by have := few_mem h hq; exact limp_few (by omega)
  rw [this, List.map_id]
theorem hasv_lim {ps : List (Int × Int)} (h0 : 0 < ps.length) (hs : ps.map limp = ps) (x y : Int) : hasF ps x y 0 (-1) = hasv (x, y) (ps.getD 0 (0, 0)) (ps.drop 1 ++ [ps.getD 0 (0, 0)]) := by
  cases ps with
  | nil => simp at h0
  | cons a t =>
    rw [hasF_eq]
    rw [List.map_cons, List.cons.injEq] at hs
    rw [hs.1, hs.2]; rfl
theorem lastp_snoc (a b : Int × Int) : ∀ (l : List (Int × Int)) , lastp a (l ++ [b]) = b := by
  intro l
  induction l generalizing a with
  | nil => rfl
  | cons c r ih => exact ih c
theorem on_start (a b c d : Int) : onb a b c d a b = true := by
  rw [onb_iff]; constructor
  · unfold crs; grind
  · unfold dot; simp
/-- twice the area, as the code adds it up: from the corner k on -/
def twF (ps : List (Int × Int)) (k : Nat) (s : Int) : Int :=
  if k + 1 < ps.length then twF ps (k + 1) (IntKind.wrap .i64 (s + crs (cA ps 0) (cB ps 0) (cA ps k) (cB ps k) (cA ps (k + 1)) (cB ps (k + 1)))) else s
termination_by ps.length - k
theorem twF_end {ps : List (Int × Int)} {k : Nat} {s : Int} (h : ¬ k + 1 < ps.length) : twF ps k s = s := by rw [twF, if_neg h]
theorem twF_step {ps : List (Int × Int)} {k : Nat} {s : Int} (h : k + 1 < ps.length) : twF ps (k + 1) (IntKind.wrap .i64 (s + crs (cA ps 0) (cB ps 0) (cA ps k) (cB ps k) (cA ps (k + 1)) (cB ps (k + 1)))) = twF ps k s := by
  conv => rhs; rw [twF, if_pos h]
end Go.Proofs.YtndkhgfecnbmnaaGreat.Am.Sp

set_option linter.unusedVariables false
set_option linter.unusedSimpArgs false
namespace Go.Proofs.YtndkhgfecnbmnaaGreat.Am.Sp
def has2 (l : List (Int × Int)) (px py : Int) : Bool := l.any (fun z => z.1 == px && (z.2 == py && true))
def addb (l : List (Int × Int)) (px py qx qy rx ry : Int) : Bool := onb qx qy rx ry px py && !(has2 l px py)
def addp (l : List (Int × Int)) (px py qx qy rx ry : Int) : List (Int × Int) := if addb l px py qx qy rx ry = true then l ++ [(px, py)] else l
/-- the ends of two segments that are on both -/
def shr (ax ay bx b_y cx cy dx dy : Int) : List (Int × Int) :=
  addp (addp (addp (addp [] ax ay cx cy dx dy) bx b_y cx cy dx dy) cx cy ax ay bx b_y) dx dy ax ay bx b_y
/-- two segments cross between their ends -/
def prp (ax ay bx b_y cx cy dx dy : Int) : Bool :=
  decide (cmp (crs ax ay bx b_y cx cy) 0 * cmp (crs ax ay bx b_y dx dy) 0 < 0) && decide (cmp (crs cx cy dx dy ax ay) 0 * cmp (crs cx cy dx dy bx b_y) 0 < 0)
def meetN (ax ay bx b_y cx cy dx dy : Int) : Int :=
  if prp ax ay bx b_y cx cy dx dy = true then 1 else mn 2 ((shr ax ay bx b_y cx cy dx dy).length : Int)
theorem addp_y {l px py qx qy rx ry} (h : addb l px py qx qy rx ry = true) : addp l px py qx qy rx ry = l ++ [(px, py)] := by unfold addp; rw [if_pos h]
theorem addp_n {l px py qx qy rx ry} (h : addb l px py qx qy rx ry = false) : addp l px py qx qy rx ry = l := by unfold addp; rw [if_neg (by rw [h]; decide)]
theorem has2_iff (l : List (Int × Int)) (px py : Int) : has2 l px py = true ↔ (px, py) ∈ l := by
  unfold has2
  rw [List.any_eq_true]
  constructor
  · rintro ⟨⟨x, y⟩, hm, h⟩
    simp only [Bool.and_true, Bool.and_eq_true, beq_iff_eq] at h
    obtain ⟨rfl, rfl⟩ := h; exact hm
  · intro h; exact ⟨_, h, by simp⟩
theorem mem_addp {l : List (Int × Int)} {px py qx qy rx ry : Int} {z : Int × Int} : z ∈ addp l px py qx qy rx ry ↔ z ∈ l ∨ (z = (px, py) ∧ onb qx qy rx ry px py = true) := by
  unfold addp addb
  cases h1 : onb qx qy rx ry px py <;> cases h2 : has2 l px py <;> simp
  rw [has2_iff] at h2
  intro h; rw [h]; exact h2
theorem nodup_addp {l : List (Int × Int)} {px py qx qy rx ry : Int} (h : l.Nodup) : (addp l px py qx qy rx ry).Nodup := by
  unfold addp
  split
  · next hb =>
    rw [List.nodup_append]
    refine ⟨h, by simp, ?_⟩
    intro a ha b hb' e
    unfold addb at hb
    simp only [List.mem_singleton] at hb'
    subst hb'; subst e
    rw [(has2_iff ..).2 ha] at hb; simp at hb
  · exact h
theorem mem_shr {ax ay bx b_y cx cy dx dy : Int} {z : Int × Int} : z ∈ shr ax ay bx b_y cx cy dx dy ↔
    (z = (ax, ay) ∧ onb cx cy dx dy ax ay = true) ∨ (z = (bx, b_y) ∧ onb cx cy dx dy bx b_y = true) ∨ (z = (cx, cy) ∧ onb ax ay bx b_y cx cy = true) ∨ (z = (dx, dy) ∧ onb ax ay bx b_y dx dy = true) := by
  unfold shr; simp only [mem_addp]; simp [or_assoc]
theorem nodup_shr (ax ay bx b_y cx cy dx dy : Int) : (shr ax ay bx b_y cx cy dx dy).Nodup := by
  unfold shr; exact nodup_addp (nodup_addp (nodup_addp (nodup_addp List.nodup_nil)))
theorem sgn_mul_le (x y : Int) : sgn x * sgn y ≤ 0 ↔ x * y ≤ 0 := by
  unfold sgn
  rcases Int.lt_trichotomy x 0 with h | h | h <;> rcases Int.lt_trichotomy y 0 with k | k | k
  · have := Int.mul_pos_of_neg_of_neg h k; simp [h, k]; omega
  · subst k; simp
  · have := Int.mul_neg_of_neg_of_pos h k; simp [h, k, show ¬ y < 0 by omega]; omega
  · subst h; simp
  · subst h; simp
  · subst h; simp
  · have := Int.mul_neg_of_pos_of_neg h k; simp [h, k, show ¬ x < 0 by omega]; omega
  · subst k; simp
  · have := Int.mul_pos h k; simp [h, k, show ¬ x < 0 by omega, show ¬ y < 0 by omega]; omega
theorem sgn_mul_lt (x y : Int) : sgn x * sgn y < 0 ↔ x * y < 0 := by
  unfold sgn
  rcases Int.lt_trichotomy x 0 with h | h | h <;> rcases Int.lt_trichotomy y 0 with k | k | k
  · have := Int.mul_pos_of_neg_of_neg h k; simp [h, k]; omega
  · subst k; simp
  · have := Int.mul_neg_of_neg_of_pos h k; simp [h, k, show ¬ y < 0 by omega]; omega
  · subst h; simp
  · subst h; simp
  · subst h; simp
  · have := Int.mul_neg_of_pos_of_neg h k; simp [h, k, show ¬ x < 0 by omega]; omega
  · subst k; simp
  · have := Int.mul_pos h k; simp [h, k, show ¬ x < 0 by omega, show ¬ y < 0 by omega]; omega
theorem cmp_mul_lt (x y : Int) : cmp x 0 * cmp y 0 < 0 ↔ x * y < 0 := by
  have e : ∀ z, cmp z 0 = sgn z := fun z => by unfold cmp sgn; (repeat' split) <;> omega
  rw [e, e, sgn_mul_lt]
theorem prp_iff (ax ay bx b_y cx cy dx dy : Int) : prp ax ay bx b_y cx cy dx dy = true ↔ crs ax ay bx b_y cx cy * crs ax ay bx b_y dx dy < 0 ∧ crs cx cy dx dy ax ay * crs cx cy dx dy bx b_y < 0 := by
  unfold prp; rw [Bool.and_eq_true, decide_eq_true_eq, decide_eq_true_eq, cmp_mul_lt, cmp_mul_lt]
end Go.Proofs.YtndkhgfecnbmnaaGreat.Am.Sp

set_option linter.unusedVariables false
set_option linter.unusedSimpArgs false
namespace Go.Proofs.YtndkhgfecnbmnaaGreat.Am.Sp
open Go
/-- positive if the point (in halves) is above the line -/
def sideD (ax ay bx b_y x y : Int) : Int := (bx - ax) * (y - 2 * ay) - (b_y - ay) * (x - 2 * ax)
variable {ax ay bx b_y x y : Int}
theorem wr_add (a b : Int) : IntKind.wrap .i64 (IntKind.wrap .i64 a + b) = IntKind.wrap .i64 (a + b) := by
  rw [IntKind.wrap_i64, IntKind.wrap_i64, IntKind.wrap_i64]; omega
def trp (ps : List (Int × Int)) (i j : Nat) : Int := (cA ps i - cA ps j) * (cB ps i + cB ps j)
def dblF (ps : List (Int × Int)) (i : Nat) (s : Int) : Int := if i < ps.length then dblF ps (i + 1) (IntKind.wrap .i64 (s + trp ps i ((i + 1) % ps.length))) else s
termination_by ps.length - i
theorem dblF_end {ps : List (Int × Int)} {i : Nat} {s : Int} (h : ¬ i < ps.length) : dblF ps i s = s := by rw [dblF, if_neg h]
def dblE (ps : List (Int × Int)) (i : Nat) : Int := if i < ps.length then trp ps i ((i + 1) % ps.length) + dblE ps (i + 1) else 0
termination_by ps.length - i
def twE (ps : List (Int × Int)) (k : Nat) : Int := if k + 1 < ps.length then crs (cA ps 0) (cB ps 0) (cA ps k) (cB ps k) (cA ps (k + 1)) (cB ps (k + 1)) + twE ps (k + 1) else 0
termination_by ps.length - k
theorem dblF_E (ps : List (Int × Int)) : ∀ (m i : Nat) (s : Int), i + m = ps.length → dblF ps i (IntKind.wrap .i64 s) = IntKind.wrap .i64 (s + dblE ps i)
  | 0, i, s, h => by rw [dblF_end (by omega), dblE, if_neg (by omega), Int.add_zero]
  | m + 1, i, s, h => by
    rw [dblF, if_pos (by omega), wr_add, dblF_E ps m (i + 1) _ (by omega)]
    conv => rhs; rw [dblE, if_pos (by omega)]
    rw [Int.add_assoc]
theorem twF_E (ps : List (Int × Int)) : ∀ (m k : Nat) (s : Int), ps.length ≤ k + m → twF ps k (IntKind.wrap .i64 s) = IntKind.wrap .i64 (s + twE ps k)
  | 0, k, s, h => by rw [twF_end (by omega), twE, if_neg (by omega), Int.add_zero]
  | m + 1, k, s, h => by
    by_cases hk : k + 1 < ps.length
    · rw [twF, if_pos hk, wr_add, twF_E ps m (k + 1) _ (by omega)]
      conv => rhs; rw [twE, if_pos hk]
      rw [Int.add_assoc]
    · rw [twF_end hk, twE, if_neg hk, Int.add_zero]
theorem dbl_tw (ps : List (Int × Int)) : ∀ (m k : Nat), k + m + 1 = ps.length → dblE ps k = (if k = 0 then 0 else trp ps k 0) + twE ps (if k = 0 then 1 else k) - (if k = 0 then 0 else 0) := by
  have main : ∀ (m k : Nat), 1 ≤ k → k + m + 1 = ps.length → dblE ps k = trp ps k 0 + twE ps k := by
    intro m
    induction m with
    | zero =>
      intro k h1 h
      rw [dblE, if_pos (by omega), dblE, if_neg (by omega), twE, if_neg (by omega), show k + 1 = ps.length by omega, Nat.mod_self]
    | succ m ih =>
      intro k h1 h
      rw [dblE, if_pos (by omega), ih (k + 1) (by omega) (by omega), Nat.mod_eq_of_lt (by omega)]
      conv => rhs; rw [twE, if_pos (by omega)]
      unfold trp crs; grind
  intro m k h
  by_cases hk : k = 0
  · subst hk
    simp only [if_true]
    cases m with
    | zero => rw [dblE, if_pos (by omega), dblE, if_neg (by omega), twE, if_neg (by omega), show 0 + 1 = ps.length by omega, Nat.mod_self]; unfold trp; simp
    | succ m =>
      rw [dblE, if_pos (by omega), main m (0 + 1) (by omega) (by omega), Nat.mod_eq_of_lt (by omega)]
      unfold trp; grind
  · rw [if_neg hk, if_neg hk, if_neg hk, main m k (by omega) h]; omega
theorem dblF_twF (ps : List (Int × Int)) : dblF ps 0 0 = twF ps 1 0 := by
  have z : IntKind.wrap .i64 0 = 0 := by rw [IntKind.wrap_i64]; omega
  have a := dblF_E ps ps.length 0 0 (by omega)
  have b := twF_E ps ps.length 1 0 (by omega)
  rw [z] at a b
  rw [a, b]
  cases h : ps.length with
  | zero => rw [dblE, if_neg (by omega), twE, if_neg (by omega)]
  | succ n =>
    have := dbl_tw ps n 0 (by omega)
    simp only [if_true] at this
    rw [this]; congr 1; omega
end Go.Proofs.YtndkhgfecnbmnaaGreat.Am.Sp
set_option linter.unusedVariables false
set_option linter.unusedSimpArgs false
namespace Go.Proofs.YtndkhgfecnbmnaaGreat.Am.Sp
open Go
abbrev gx (ps : List (Int × Int)) (i : Nat) : Int := (ps.getD i (0, 0)).1
abbrev gy (ps : List (Int × Int)) (i : Nat) : Int := (ps.getD i (0, 0)).2
/-- the first place whose point is such a one -/
def ixF (f : Int × Int → Bool) (ps : List (Int × Int)) (i : Nat) : Int := if i < ps.length then (if f (ps.getD i (0, 0)) = true then ((i : Nat) : Int) else ixF f ps (i + 1)) else -1
termination_by ps.length - i
theorem ixF_end {f : Int × Int → Bool} {ps : List (Int × Int)} {i : Nat} (h : ¬ i < ps.length) : ixF f ps i = -1 := by rw [ixF, if_neg h]
theorem ixF_yes {f : Int × Int → Bool} {ps : List (Int × Int)} {i : Nat} (h : i < ps.length) (hf : f (ps.getD i (0, 0)) = true) : ixF f ps i = ((i : Nat) : Int) := by rw [ixF, if_pos h, if_pos hf]
theorem ixF_no {f : Int × Int → Bool} {ps : List (Int × Int)} {i : Nat} (h : i < ps.length) (hf : f (ps.getD i (0, 0)) = false) : ixF f ps (i + 1) = ixF f ps i := by
  conv => rhs; rw [ixF, if_pos h, if_neg (by rw [hf]; decide)]
theorem ixF_bd (f : Int × Int → Bool) (ps : List (Int × Int)) : ∀ (m i : Nat), i + m = ps.length → (ixF f ps i = -1 ∧ (ps.drop i).any f = false) ∨ (∃ j, i ≤ j ∧ j < ps.length ∧ ixF f ps i = ((j : Nat) : Int) ∧ f (ps.getD j (0, 0)) = true ∧ (ps.drop i).any f = true ∧ ∀ q, i ≤ q → q < j → f (ps.getD q (0, 0)) = false)
  | 0, i, h => .inl ⟨ixF_end (by omega), by rw [List.drop_of_length_le (by omega)]; rfl⟩
  | m + 1, i, h => by
    have hl : i < ps.length := by omega
    have hd : ps.drop i = ps.getD i (0, 0) :: ps.drop (i + 1) := by rw [List.drop_eq_getElem_cons hl, getD_lt hl]
    rcases Bool.eq_false_or_eq_true (f (ps.getD i (0, 0))) with hf | hf
    · exact .inr ⟨i, Nat.le_refl _, hl, ixF_yes hl hf, hf, by rw [hd, List.any_cons, hf]; rfl, fun q h1 h2 => by omega⟩
    · rcases ixF_bd f ps m (i + 1) (by omega) with ⟨h1, h2⟩ | ⟨j, h1, h2, h3, h4, h5, h6⟩
      · exact .inl ⟨by rw [← ixF_no hl hf]; exact h1, by rw [hd, List.any_cons, hf, h2]; rfl⟩
      · refine .inr ⟨j, by omega, h2, by rw [← ixF_no hl hf]; exact h3, h4, by rw [hd, List.any_cons, h5, Bool.or_true], fun q q1 q2 => ?_⟩
        rcases Nat.eq_or_lt_of_le q1 with rfl | q1
        · exact hf
        · exact h6 q q1 q2
theorem ixF_any (f : Int × Int → Bool) (ps : List (Int × Int)) : decide (ixF f ps 0 ≥ 0) = ps.any f := by
  rcases ixF_bd f ps ps.length 0 (by omega) with ⟨h1, h2⟩ | ⟨j, _, _, h3, _, h5, _⟩
  · rw [h1]; rw [List.drop_zero] at h2; rw [h2]; rfl
  · rw [h3]; rw [List.drop_zero] at h5; rw [h5]; exact decide_eq_true (by omega)
def nok (q : Int × Int) : Bool := !(okb q.1 q.2)
def eqP (ps : List (Int × Int)) (k k2 : Nat) : Bool := (gx ps k == gx ps k2) && ((gy ps k == gy ps k2) && true)
def mnE (ps : List (Int × Int)) (k k2 i i2 : Nat) : Int := meetN (cA ps k) (cB ps k) (cA ps k2) (cB ps k2) (cA ps i) (cB ps i) (cA ps i2) (cB ps i2)
/-- two edges, k ahead of i, have only those corners in common that they must have -/
def apF (ps : List (Int × Int)) (k k2 i i2 : Nat) : Bool :=
  if eqP ps k k2 = true then false else if eqP ps i i2 = true then false else if ((k : Nat) : Int) + 1 == ((i : Nat) : Int) then mnE ps k k2 i i2 == 1 else if ((i2 : Nat) : Int) == ((k : Nat) : Int) then mnE ps k k2 i i2 == 1 else mnE ps k k2 i i2 == 0
section
variable {ps : List (Int × Int)} {k k2 i i2 : Nat}
theorem apF_1 (h : eqP ps k k2 = true) : apF ps k k2 i i2 = false := if_pos h
theorem apF_2 (h1 : eqP ps k k2 = false) (h : eqP ps i i2 = true) : apF ps k k2 i i2 = false := by unfold apF; rw [if_neg (by rw [h1]; decide), if_pos h]
theorem apF_3 (h1 : eqP ps k k2 = false) (h2 : eqP ps i i2 = false) (h : (((k : Nat) : Int) + 1 == ((i : Nat) : Int)) = true) : apF ps k k2 i i2 = (mnE ps k k2 i i2 == 1) := by unfold apF; rw [if_neg (by rw [h1]; decide), if_neg (by rw [h2]; decide), if_pos h]
theorem apF_4 (h1 : eqP ps k k2 = false) (h2 : eqP ps i i2 = false) (h3 : (((k : Nat) : Int) + 1 == ((i : Nat) : Int)) = false) (h : (((i2 : Nat) : Int) == ((k : Nat) : Int)) = true) : apF ps k k2 i i2 = (mnE ps k k2 i i2 == 1) := by unfold apF; rw [if_neg (by rw [h1]; decide), if_neg (by rw [h2]; decide), if_neg (by rw [h3]; decide), if_pos h]
theorem apF_5 (h1 : eqP ps k k2 = false) (h2 : eqP ps i i2 = false) (h3 : (((k : Nat) : Int) + 1 == ((i : Nat) : Int)) = false) (h : (((i2 : Nat) : Int) == ((k : Nat) : Int)) = false) : apF ps k k2 i i2 = (mnE ps k k2 i i2 == 0) := by unfold apF; rw [if_neg (by rw [h1]; decide), if_neg (by rw [h2]; decide), if_neg (by rw [h3]; decide), if_neg (by rw [h]; decide)]
end
def apE (ps : List (Int × Int)) (k i : Nat) : Bool := apF ps k ((k + 1) % ps.length) i ((i + 1) % ps.length)
def apRow (ps : List (Int × Int)) (i k : Nat) : Bool := (List.range k).all fun q => apE ps q i
def allap (ps : List (Int × Int)) (i : Nat) : Bool := (List.range i).all fun q => apRow ps q q
theorem all_snoc {f : Nat → Bool} {k : Nat} : (List.range (k + 1)).all f = ((List.range k).all f && f k) := by rw [List.range_succ, List.all_append]; simp
theorem all_at {f : Nat → Bool} {n k : Nat} (h : (List.range n).all f = true) (hk : k < n) : f k = true := List.all_eq_true.1 h k (List.mem_range.2 hk)
theorem all_off {f : Nat → Bool} {n k : Nat} (hk : k < n) (h : f k = false) : (List.range n).all f = false := by
  rcases Bool.eq_false_or_eq_true ((List.range n).all f) with q | q
  · rw [all_at q hk] at h; cases h
  · exact q
theorem apRow_next {ps : List (Int × Int)} {i k k2 i2 : Nat} (h : apRow ps i k = true) (hk : (k + 1) % ps.length = k2) (hi : (i + 1) % ps.length = i2) (q : (!(apF ps k k2 i i2)) = false) : apRow ps i (k + 1) = true := by
  unfold apRow at *; rw [all_snoc, h]; subst hk hi; unfold apE; simpa using q
theorem allap_next {ps : List (Int × Int)} {i k : Nat} (h : allap ps i = true) (hk : k = i) (q : apRow ps i k = true) : allap ps (i + 1) = true := by
  subst hk; unfold allap at *; rw [all_snoc, h]; simpa using q
theorem allap_no {ps : List (Int × Int)} {i k k2 i2 : Nat} (hi : i < ps.length) (hk : k < i) (h2 : (k + 1) % ps.length = k2) (h3 : (i + 1) % ps.length = i2) (q : (!(apF ps k k2 i i2)) = true) : allap ps ps.length = false :=
  all_off hi (all_off hk (by subst h2 h3; unfold apE; simpa using q))
def chkF (ps : List (Int × Int)) : Int := if decide (((ps.length : Nat) : Int) > 200) = true then 2 else if decide (((ps.length : Nat) : Int) < 3) = true then 3 else if ps.any nok = true then 1 else if allap ps ps.length = true then 0 else 10
section
variable {ps : List (Int × Int)}
theorem chk_2 (h : decide (((ps.length : Nat) : Int) > 200) = true) : chkF ps = 2 := if_pos h
theorem chk_3 (h1 : decide (((ps.length : Nat) : Int) > 200) = false) (h : decide (((ps.length : Nat) : Int) < 3) = true) : chkF ps = 3 := by unfold chkF; rw [if_neg (by rw [h1]; decide), if_pos h]
theorem chk_1 (h1 : decide (((ps.length : Nat) : Int) > 200) = false) (h2 : decide (((ps.length : Nat) : Int) < 3) = false) (h : ps.any nok = true) : chkF ps = 1 := by unfold chkF; rw [if_neg (by rw [h1]; decide), if_neg (by rw [h2]; decide), if_pos h]
theorem chk_10 (h1 : decide (((ps.length : Nat) : Int) > 200) = false) (h2 : decide (((ps.length : Nat) : Int) < 3) = false) (h3 : ps.any nok = false) (h : allap ps ps.length = false) : chkF ps = 10 := by unfold chkF; rw [if_neg (by rw [h1]; decide), if_neg (by rw [h2]; decide), if_neg (by rw [h3]; decide), if_neg (by rw [h]; decide)]
theorem chk_0 {i : Nat} (h1 : decide (((ps.length : Nat) : Int) > 200) = false) (h2 : decide (((ps.length : Nat) : Int) < 3) = false) (h3 : ps.any nok = false) (hi : i = ps.length) (h : allap ps i = true) : chkF ps = 0 := by subst hi; unfold chkF; rw [if_neg (by rw [h1]; decide), if_neg (by rw [h2]; decide), if_neg (by rw [h3]; decide), if_pos h]
end
def wantN (n i k : Nat) : Int := if k = i + 1 ∨ (i = 0 ∧ k + 1 = n) then 1 else 0
def rgRow (ps : List (Int × Int)) (i k : Nat) : Bool := (List.range k).all fun q => bif Nat.ble (i + 1) q then mnE ps i ((i + 1) % ps.length) q ((q + 1) % ps.length) == wantN ps.length i q else true
def allrg (ps : List (Int × Int)) (i : Nat) : Bool := (List.range i).all fun q => !(eqP ps q ((q + 1) % ps.length)) && rgRow ps q ps.length
theorem rg_ap {ps : List (Int × Int)} (hn : 3 ≤ ps.length) : allrg ps ps.length = allap ps ps.length := by
  have ap : ∀ k i, k < i → i < ps.length → (apE ps k i = true ↔ eqP ps k ((k + 1) % ps.length) = false ∧ eqP ps i ((i + 1) % ps.length) = false ∧ mnE ps k ((k + 1) % ps.length) i ((i + 1) % ps.length) = wantN ps.length k i) := by
    intro k i hk hi
    have hi2 : (i + 1) % ps.length = if i + 1 = ps.length then 0 else i + 1 := by
      split
      · rename_i h; rw [h, Nat.mod_self]
      · exact Nat.mod_eq_of_lt (by omega)
    unfold apE apF wantN
    generalize mnE ps k ((k + 1) % ps.length) i ((i + 1) % ps.length) = M
    generalize eqP ps k ((k + 1) % ps.length) = E1
    generalize eqP ps i ((i + 1) % ps.length) = E2
    rw [hi2]
    cases E1 <;> cases E2 <;> simp
    by_cases h1 : k + 1 = i
    · rw [if_pos (by omega), if_pos (.inl h1.symm)]
    · rw [if_neg (by omega)]
      by_cases h2 : k = 0 ∧ i + 1 = ps.length
      · rw [if_pos (by rw [if_pos h2.2, h2.1]), if_pos (.inr h2)]
      · rw [if_neg (by split <;> omega), if_neg (by omega)]
  rw [Bool.eq_iff_iff]
  unfold allrg allap apRow rgRow
  simp only [List.all_eq_true, List.mem_range, Bool.and_eq_true, Bool.not_eq_true']
  constructor
  · intro h i hi k hk
    refine (ap k i hk hi).2 ⟨(h k (by omega)).1, (h i hi).1, ?_⟩
    have := (h k (by omega)).2 i hi
    rw [Nat.ble_eq_true_of_le (show k + 1 ≤ i by omega)] at this
    simpa using this
  · intro h i hi
    have he : ∀ a b, a < b → b < ps.length → eqP ps a ((a + 1) % ps.length) = false ∧ eqP ps b ((b + 1) % ps.length) = false := fun a b hab hb => ⟨((ap a b hab hb).1 (h b hb a hab)).1, ((ap a b hab hb).1 (h b hb a hab)).2.1⟩
    refine ⟨?_, fun k hk => ?_⟩
    · rcases Nat.eq_zero_or_pos i with rfl | hp
      · exact (he 0 1 (by omega) (by omega)).1
      · exact (he 0 i hp hi).2
    · rcases Bool.eq_false_or_eq_true (Nat.ble (i + 1) k) with hb | hb
      · rw [hb]
        have hik : i < k := Nat.le_of_ble_eq_true hb
        have := ((ap i k hik hk).1 (h k hk i hik)).2.2
        simpa using this
      · rw [hb]; rfl
end Go.Proofs.YtndkhgfecnbmnaaGreat.Am.Sp
set_option linter.unusedVariables false
set_option linter.unusedSimpArgs false
namespace Go.Proofs.YtndkhgfecnbmnaaGreat.Am.Sp
open Go
theorem ext_getD {a b : List (Int × Int)} (hl : a.length = b.length) (h : ∀ i, i < a.length → a.getD i (0, 0) = b.getD i (0, 0)) : a = b := by
  refine List.ext_getElem hl fun i h1 h2 => ?_
  have := h i h1
  rwa [getD_lt h1, getD_lt h2] at this
/-- the first i pairs from both ends are exchanged -/
def rvl (ps : List (Int × Int)) (i : Nat) : List (Int × Int) := (List.range ps.length).map fun q => if q < i ∨ ps.length ≤ q + i then ps.getD (ps.length - 1 - q) (0, 0) else ps.getD q (0, 0)
theorem rvl_len (ps : List (Int × Int)) (i : Nat) : (rvl ps i).length = ps.length := by simp [rvl]
theorem rvl_at {ps : List (Int × Int)} {i q : Nat} (h : q < ps.length) : (rvl ps i).getD q (0, 0) = if q < i ∨ ps.length ≤ q + i then ps.getD (ps.length - 1 - q) (0, 0) else ps.getD q (0, 0) := by
  rw [getD_lt (by rw [rvl_len]; exact h)]; simp [rvl]
theorem rvl_0 (ps : List (Int × Int)) : rvl ps 0 = ps := by
  refine ext_getD (rvl_len ps 0) fun i hi => ?_
  rw [rvl_len] at hi
  rw [rvl_at hi, if_neg (by omega)]
theorem set_at {l : List (Int × Int)} {i j : Nat} {v : Int × Int} (h : j < l.length) : (l.set i v).getD j (0, 0) = if i = j then v else l.getD j (0, 0) := by
  rw [getD_lt (by simpa using h), getD_lt h, List.getElem_set]
theorem rvl_next {ps : List (Int × Int)} {i j : Nat} (hj : i + j + 1 = ps.length) (hl : i < j) : ((rvl ps i).set i ((rvl ps i).getD j (0, 0))).set j ((rvl ps i).getD i (0, 0)) = rvl ps (i + 1) := by
  refine ext_getD (by simp [rvl_len]) fun q hq => ?_
  have hq' : q < ps.length := by simpa [rvl_len] using hq
  rw [set_at (by simpa [rvl_len] using hq'), set_at (by rw [rvl_len]; exact hq'), rvl_at hq', rvl_at (by omega), rvl_at (by omega), rvl_at hq']
  by_cases h1 : j = q
  · subst h1
    rw [if_pos rfl, if_neg (by omega), if_pos (by omega)]
    congr 1; omega
  · rw [if_neg h1]
    by_cases h2 : i = q
    · subst h2
      rw [if_pos rfl, if_neg (by omega), if_pos (by omega)]
      congr 1; omega
    · rw [if_neg h2]
      by_cases h3 : q < i ∨ ps.length ≤ q + i
      · rw [if_pos h3, if_pos (by omega)]
      · rw [if_neg h3, if_neg (by omega)]
theorem rev_at {ps : List (Int × Int)} {q : Nat} (h : q < ps.length) : ps.reverse.getD q (0, 0) = ps.getD (ps.length - 1 - q) (0, 0) := by
  rw [getD_lt (by simpa using h), List.getElem_reverse, getD_lt (by omega)]
theorem rvl_end {ps : List (Int × Int)} {i j : Nat} (hj : i + j + 1 = ps.length) (hl : ¬ i < j) : rvl ps i = ps.reverse := by
  refine ext_getD (by simp [rvl_len]) fun q hq => ?_
  have hq' : q < ps.length := by simpa [rvl_len] using hq
  rw [rvl_at hq', rev_at hq']
  split
  · rfl
  · congr 1; omega
/-- a point ahead of another one -/
def befP (a b : Int × Int) : Bool := decide (pcmp a.1 a.2 b.1 b.2 < 0)
theorem befP_iff (a b : Int × Int) : befP a b = true ↔ a.1 < b.1 ∨ (a.1 = b.1 ∧ a.2 < b.2) := by
  unfold befP; rw [pcmp_form, decide_eq_true_iff]; (repeat' split) <;> omega
/-- the least of the first i points -/
def mnP (ps : List (Int × Int)) : Nat → Int × Int
  | 0 => ps.getD 0 (0, 0)
  | i + 1 => if befP (ps.getD (i + 1) (0, 0)) (mnP ps i) = true then ps.getD (i + 1) (0, 0) else mnP ps i
theorem mnP_y {ps : List (Int × Int)} {i : Nat} {a b : Int} (ha : a = (mnP ps i).1) (hb : b = (mnP ps i).2) (h : decide (pcmp (ps.getD (i + 1) (0, 0)).1 (ps.getD (i + 1) (0, 0)).2 a b < 0) = true) : ps.getD (i + 1) (0, 0) = mnP ps (i + 1) := by
  subst ha hb; exact (if_pos h).symm
theorem mnP_n {ps : List (Int × Int)} {i : Nat} {a b : Int} (ha : a = (mnP ps i).1) (hb : b = (mnP ps i).2) (h : decide (pcmp (ps.getD (i + 1) (0, 0)).1 (ps.getD (i + 1) (0, 0)).2 a b < 0) = false) : (a, b) = mnP ps (i + 1) := by
  subst ha hb; exact (if_neg (by unfold befP; rw [h]; decide)).symm
theorem mnP_spec (ps : List (Int × Int)) : ∀ i, (∃ j, j ≤ i ∧ mnP ps i = ps.getD j (0, 0)) ∧ ∀ j, j ≤ i → befP (ps.getD j (0, 0)) (mnP ps i) = false
  | 0 => ⟨⟨0, Nat.le_refl 0, rfl⟩, fun j hj => by
      rw [show j = 0 by omega]
      rcases Bool.eq_false_or_eq_true (befP (ps.getD 0 (0, 0)) (mnP ps 0)) with h | h
      · have := (befP_iff _ _).1 h; simp only [mnP] at this; omega
      · exact h⟩
  | i + 1 => by
    obtain ⟨⟨j, hj, e⟩, h⟩ := mnP_spec ps i
    have hn : ∀ a b : Int × Int, befP a b = false ↔ ¬ (a.1 < b.1 ∨ (a.1 = b.1 ∧ a.2 < b.2)) := fun a b => by rw [← befP_iff]; simp
    rcases Bool.eq_false_or_eq_true (befP (ps.getD (i + 1) (0, 0)) (mnP ps i)) with q | q
    · have em : mnP ps (i + 1) = ps.getD (i + 1) (0, 0) := if_pos q
      rw [em]
      refine ⟨⟨i + 1, Nat.le_refl _, rfl⟩, fun k hk => ?_⟩
      rw [hn]
      rcases Nat.eq_or_lt_of_le hk with rfl | hk
      · omega
      · have a := (hn _ _).1 (h k (by omega)); have b := (befP_iff _ _).1 q
        omega
    · have em : mnP ps (i + 1) = mnP ps i := if_neg (by rw [q]; decide)
      rw [em]
      refine ⟨⟨j, by omega, e⟩, fun k hk => ?_⟩
      rcases Nat.eq_or_lt_of_le hk with rfl | hk
      · exact q
      · exact h k (by omega)
def eqTo (a q : Int × Int) : Bool := (a.1 == q.1) && ((a.2 == q.2) && true)
theorem eqTo_iff (a q : Int × Int) : eqTo a q = true ↔ a = q := by
  unfold eqTo; simp [Prod.ext_iff]
/-- a ring written from the place a on -/
def rotL (ps : List (Int × Int)) (a : Nat) : List (Int × Int) := ps.drop a ++ ps.take a
/-- all corners are different -/
def Diff (ps : List (Int × Int)) : Prop := ∀ i j, i < j → j < ps.length → ps.getD i (0, 0) ≠ ps.getD j (0, 0)
theorem diff_eq {ps : List (Int × Int)} (h : Diff ps) {i j : Nat} (hi : i < ps.length) (hj : j < ps.length) (e : ps.getD i (0, 0) = ps.getD j (0, 0)) : i = j := by
  rcases Nat.lt_trichotomy i j with q | q | q
  · exact absurd e (h i j q hj)
  · exact q
  · exact absurd e.symm (h j i q hi)
theorem meet_end {ax ay bx b_y cx cy dx dy : Int} (h : onb cx cy dx dy ax ay = true) : meetN ax ay bx b_y cx cy dx dy > 0 := by
  unfold meetN
  split
  · decide
  · have hm : (ax, ay) ∈ shr ax ay bx b_y cx cy dx dy := mem_shr.2 (.inl ⟨rfl, h⟩)
    have := List.length_pos_of_mem hm
    unfold mn; split <;> omega
theorem chk_diff {ps : List (Int × Int)} (h : chkF ps = 0) : (3 ≤ ps.length ∧ ps.length ≤ 200) ∧ Diff ps := by
  unfold chkF at h
  split at h
  · cases h
  · rename_i c1
    split at h
    · cases h
    · rename_i c2
      split at h
      · cases h
      · split at h
        · rename_i c4
          have hn : 3 ≤ ps.length ∧ ps.length ≤ 200 := by simp only [decide_eq_true_eq] at c1 c2; omega
          refine ⟨hn, fun a b hab hb e => ?_⟩
          have ap := all_at (all_at c4 hb) hab
          have hE : ∀ k k2, ps.getD k (0, 0) = ps.getD k2 (0, 0) → eqP ps k k2 = true := fun k k2 e => by unfold eqP gx gy; rw [e]; simp
          have bp : meetN (cA ps a) (cB ps a) (cA ps ((a + 1) % ps.length)) (cB ps ((a + 1) % ps.length)) (cA ps b) (cB ps b) (cA ps ((b + 1) % ps.length)) (cB ps ((b + 1) % ps.length)) > 0 := by
            refine meet_end ?_
            have e1 : cA ps a = cA ps b := by unfold cA; rw [e]
            have e2 : cB ps a = cB ps b := by unfold cB; rw [e]
            rw [e1, e2]; exact on_start _ _ _ _
          have ap' : apF ps a ((a + 1) % ps.length) b ((b + 1) % ps.length) = true := ap
          by_cases h1 : a + 1 = b
          · rw [apF_1 (hE _ _ (by rw [Nat.mod_eq_of_lt (show a + 1 < ps.length by omega), h1]; exact e))] at ap'; cases ap'
          · by_cases h2 : a = 0 ∧ b + 1 = ps.length
            · have : eqP ps b ((b + 1) % ps.length) = true := hE _ _ (by rw [h2.2, Nat.mod_self, ← h2.1]; exact e.symm)
              unfold apF at ap'; rw [this] at ap'; simp at ap'
            · have hb2 : (b + 1) % ps.length = if b + 1 = ps.length then 0 else b + 1 := by
                split
                · rename_i h; rw [h, Nat.mod_self]
                · exact Nat.mod_eq_of_lt (by omega)
              have bp' : mnE ps a ((a + 1) % ps.length) b ((b + 1) % ps.length) > 0 := bp
              unfold apF at ap'
              generalize mnE ps a ((a + 1) % ps.length) b ((b + 1) % ps.length) = M at *
              have t1 : (((a : Nat) : Int) + 1 == ((b : Nat) : Int)) = false := by rw [beq_eq_false_iff_ne]; omega
              have t2 : ((((b + 1) % ps.length : Nat) : Int) == ((a : Nat) : Int)) = false := by rw [hb2, beq_eq_false_iff_ne]; split <;> omega
              rw [t1, t2] at ap'
              generalize eqP ps a ((a + 1) % ps.length) = E1 at *
              generalize eqP ps b ((b + 1) % ps.length) = E2 at *
              cases E1 <;> cases E2 <;> simp at ap'
              omega
        · cases h
/-- the place of the least corner -/
theorem least_ex {ps : List (Int × Int)} (hn : 1 ≤ ps.length) : ∃ m, m < ps.length ∧ mnP ps (ps.length - 1) = ps.getD m (0, 0) ∧ ∀ j, j < ps.length → befP (ps.getD j (0, 0)) (ps.getD m (0, 0)) = false := by
  obtain ⟨⟨j, hj, e⟩, h⟩ := mnP_spec ps (ps.length - 1)
  exact ⟨j, by omega, e, fun k hk => by rw [← e]; exact h k (by omega)⟩
theorem bef_tot {a b : Int × Int} (h1 : befP a b = false) (h2 : befP b a = false) : a = b := by
  have e1 : ¬ (a.1 < b.1 ∨ (a.1 = b.1 ∧ a.2 < b.2)) := by rw [← befP_iff, h1]; decide
  have e2 : ¬ (b.1 < a.1 ∨ (b.1 = a.1 ∧ b.2 < a.2)) := by rw [← befP_iff, h2]; decide
  exact Prod.ext (by omega) (by omega)
theorem ix_eq {ps : List (Int × Int)} (hd : Diff ps) {m : Nat} (hm : m < ps.length) : ixF (eqTo (ps.getD m (0, 0))) ps 0 = ((m : Nat) : Int) := by
  rcases ixF_bd (eqTo (ps.getD m (0, 0))) ps ps.length 0 (by omega) with ⟨_, h2⟩ | ⟨j, _, h2, h3, h4, _⟩
  · rw [List.drop_zero, List.any_eq_false] at h2
    have := h2 (ps.getD m (0, 0)) (by rw [getD_lt hm]; exact List.getElem_mem hm)
    rw [(eqTo_iff _ _).2 rfl] at this; simp at this
  · rw [h3, diff_eq hd hm h2 ((eqTo_iff _ _).1 h4)]
theorem diff_rev {ps : List (Int × Int)} (h : Diff ps) : Diff ps.reverse := by
  intro i j hij hj e
  rw [List.length_reverse] at hj
  rw [rev_at (by omega), rev_at hj] at e
  exact h (ps.length - 1 - j) (ps.length - 1 - i) (by omega) (by omega) e.symm
/-- what Norm answers of different corners -/
def nrmL (ps : List (Int × Int)) (m : Nat) : List (Int × Int) := if twF ps 1 0 < 0 then rotL ps.reverse (ps.length - 1 - m) else rotL ps m
section
variable {ps : List (Int × Int)} {m q i : Nat}
theorem min_pt (hm : m < ps.length) (hl : ∀ j, j < ps.length → befP (ps.getD j (0, 0)) (ps.getD m (0, 0)) = false) : mnP ps (ps.length - 1) = ps.getD m (0, 0) := by
  obtain ⟨j, hj, e, h⟩ := least_ex (ps := ps) (by omega)
  rw [e]
  exact bef_tot (hl j hj) (h m hm)
theorem ix_plain (hm : m < ps.length) (hd : Diff ps) (hl : ∀ j, j < ps.length → befP (ps.getD j (0, 0)) (ps.getD m (0, 0)) = false) : ixF (eqTo ((mnP ps (ps.length - 1)).1, (mnP ps (ps.length - 1)).2)) ps 0 = ((m : Nat) : Int) := by
  rw [min_pt hm hl]; exact ix_eq hd hm
theorem ix_rev (hm : m < ps.length) (hd : Diff ps) (hl : ∀ j, j < ps.length → befP (ps.getD j (0, 0)) (ps.getD m (0, 0)) = false) (hq : ps.length - 1 - m = q) : ixF (eqTo ((mnP ps.reverse (ps.length - 1)).1, (mnP ps.reverse (ps.length - 1)).2)) ps.reverse 0 = ((q : Nat) : Int) := by
  have hq' : q < ps.reverse.length := by rw [List.length_reverse]; omega
  have e : ps.reverse.getD q (0, 0) = ps.getD m (0, 0) := by rw [rev_at (by omega)]; congr 1; omega
  have := ix_plain (ps := ps.reverse) (m := q) hq' (diff_rev hd) (fun j hj => by rw [List.length_reverse] at hj; rw [e, rev_at hj]; exact hl _ (by omega))
  rw [List.length_reverse] at this; exact this
theorem nrm_rev (ht : twF ps 1 0 < 0) (hq : ps.length - 1 - m = q) : nrmL ps m = rotL ps.reverse q := by subst hq; exact if_pos ht
theorem nrm_pl (ht : ¬ twF ps 1 0 < 0) : nrmL ps m = rotL ps m := if_neg ht
end
end Go.Proofs.YtndkhgfecnbmnaaGreat.Am.Sp

set_option linter.unusedVariables false
set_option linter.unusedSimpArgs false
namespace Go.Proofs.YtndkhgfecnbmnaaGreat.Am.Sp
theorem addb_on {l px py qx qy rx ry} (h : addb l px py qx qy rx ry = true) : onb qx qy rx ry px py = true := by
  unfold addb at h; rw [Bool.and_eq_true] at h; exact h.1
theorem addb_no {l px py qx qy rx ry} (h : addb l px py qx qy rx ry = true) : has2 l px py = false := by
  unfold addb at h; rw [Bool.and_eq_true] at h; simpa using h.2
theorem has2_mem {l : List (Int × Int)} {x y px py : Int} (hm : (x, y) ∈ l) (h : has2 l px py = false) : ((x == px) && ((y == py) && true)) = false := by
  unfold has2 at h
  rw [List.any_eq_false] at h
  have := h _ hm
  simpa using this
theorem cmp3 (ax ay bx b_y cx cy dx dy : Int) : (-1 ≤ cmp (crs ax ay bx b_y cx cy) 0 * cmp (crs ax ay bx b_y dx dy) 0 ∧ cmp (crs ax ay bx b_y cx cy) 0 * cmp (crs ax ay bx b_y dx dy) 0 ≤ 1) ∧
    (-1 ≤ cmp (crs cx cy dx dy ax ay) 0 * cmp (crs cx cy dx dy bx b_y) 0 ∧ cmp (crs cx cy dx dy ax ay) 0 * cmp (crs cx cy dx dy bx b_y) 0 ≤ 1) := by
  have a := cmp_bd (crs ax ay bx b_y cx cy) 0
  have b := cmp_bd (crs ax ay bx b_y dx dy) 0
  have c := cmp_bd (crs cx cy dx dy ax ay) 0
  have d := cmp_bd (crs cx cy dx dy bx b_y) 0
  have p := mul_bd a.1 a.2 b.1 b.2
  have q := mul_bd c.1 c.2 d.1 d.2
  omega
theorem prp_swap (ax ay bx b_y cx cy dx dy : Int) : prp cx cy dx dy ax ay bx b_y = prp ax ay bx b_y cx cy dx dy := by
  rw [Bool.eq_iff_iff, prp_iff, prp_iff]; constructor <;> rintro ⟨h1, h2⟩ <;> exact ⟨h2, h1⟩
theorem shr_swap (ax ay bx b_y cx cy dx dy : Int) (z : Int × Int) : z ∈ shr cx cy dx dy ax ay bx b_y ↔ z ∈ shr ax ay bx b_y cx cy dx dy := by
  rw [mem_shr, mem_shr]; constructor <;> (rintro (h | h | h | h) <;> simp [h])
theorem len_same {l m : List (Int × Int)} (h1 : l.Nodup) (h2 : m.Nodup) (h : ∀ z, z ∈ l ↔ z ∈ m) : l.length = m.length :=
  ((List.perm_ext_iff_of_nodup h1 h2).2 h).length_eq
theorem meetN_swap (ax ay bx b_y cx cy dx dy : Int) : meetN cx cy dx dy ax ay bx b_y = meetN ax ay bx b_y cx cy dx dy := by
  unfold meetN; rw [prp_swap, len_same (nodup_shr ..) (nodup_shr ..) (shr_swap ax ay bx b_y cx cy dx dy)]
end Go.Proofs.YtndkhgfecnbmnaaGreat.Am.Sp

set_option linter.unusedVariables false
set_option linter.unusedSimpArgs false
namespace Go.Proofs.YtndkhgfecnbmnaaGreat.Am.Sp
open Go
def sumN (f : Nat → Int) : Nat → Int
  | 0 => 0
  | n + 1 => sumN f n + f n
theorem sumN_add (f : Nat → Int) (a : Nat) : ∀ b, sumN f (a + b) = sumN f a + sumN (fun i => f (a + i)) b
  | 0 => by simp [sumN]
  | b + 1 => by rw [← Nat.add_assoc, sumN, sumN_add f a b]; simp only [sumN]; omega
theorem sumN_bd {f : Nat → Int} {M : Int} (h : ∀ i, -M ≤ f i ∧ f i ≤ M) : ∀ n : Nat, -(M * n) ≤ sumN f n ∧ sumN f n ≤ M * n
  | 0 => by simp [sumN]
  | n + 1 => by
    have ih := sumN_bd h n
    have := h n
    unfold sumN
    rw [Int.natCast_succ, Int.mul_add, Int.mul_one]; omega
/-- twice the area, one edge after another -/
def trE (ps : List (Int × Int)) (i : Nat) : Int := trp ps i ((i + 1) % ps.length)
def areaN (ps : List (Int × Int)) : Int := sumN (trE ps) ps.length
theorem dblE_sum (ps : List (Int × Int)) : ∀ (m i : Nat), i + m = ps.length → sumN (trE ps) i + dblE ps i = areaN ps
  | 0, i, h => by rw [dblE, if_neg (by omega), show i = ps.length by omega]; unfold areaN; omega
  | m + 1, i, h => by
    have ih := dblE_sum ps m (i + 1) (by omega)
    rw [dblE, if_pos (by omega)]
    rw [sumN] at ih
    unfold trE at *; omega
theorem dblE_area (ps : List (Int × Int)) : dblE ps 0 = areaN ps := by have := dblE_sum ps ps.length 0 (by omega); simp only [sumN, Int.zero_add] at this; exact this
theorem twF_area {ps : List (Int × Int)} (hf : Few 40 ps) (hl : ps.length ≤ 8) : twF ps 1 0 = areaN ps ∧ (-51200 ≤ areaN ps ∧ areaN ps ≤ 51200) := by
  have hb : -51200 ≤ areaN ps ∧ areaN ps ≤ 51200 := by
    have := sumN_bd (f := trE ps) (M := 6400) (fun i => by
      have a := hf i
      have b := hf ((i + 1) % ps.length)
      unfold trE trp cA cB
      rw [lim_id (by omega) (by omega), lim_id (by omega) (by omega), lim_id (by omega) (by omega), lim_id (by omega) (by omega)]
      exact mul_bd (A := 80) (B := 80) (by omega) (by omega) (by omega) (by omega)) ps.length
    unfold areaN
    have hc : ((ps.length : Nat) : Int) ≤ 8 := by omega
    omega
  refine ⟨?_, hb⟩
  have z : IntKind.wrap .i64 0 = 0 := by rw [IntKind.wrap_i64]; omega
  rw [← dblF_twF]
  have a := dblF_E ps ps.length 0 0 (by omega)
  rw [z, Int.zero_add, dblE_area] at a
  rw [a, IntKind.wrap_i64]; omega
def okE (ps : List (Int × Int)) (i k : Nat) : Prop := (eqP ps i ((i + 1) % ps.length) = false ∧ eqP ps k ((k + 1) % ps.length) = false) ∧ mnE ps i ((i + 1) % ps.length) k ((k + 1) % ps.length) = if (i + 1) % ps.length = k ∨ (k + 1) % ps.length = i then 1 else 0
theorem mn_swap (ps : List (Int × Int)) (a b c d : Nat) : mnE ps c d a b = mnE ps a b c d := meetN_swap _ _ _ _ _ _ _ _
theorem okE_symm {ps : List (Int × Int)} {i k : Nat} (h : okE ps i k) : okE ps k i := by
  refine ⟨⟨h.1.2, h.1.1⟩, ?_⟩
  rw [mn_swap, h.2]
  by_cases c : (i + 1) % ps.length = k ∨ (k + 1) % ps.length = i
  · rw [if_pos c, if_pos c.symm]
  · rw [if_neg c, if_neg fun q => c q.symm]
theorem apE_iff {ps : List (Int × Int)} (hn : 3 ≤ ps.length) {k i : Nat} (hk : k < i) (hi : i < ps.length) : apE ps k i = true ↔ okE ps k i := by
  have hi2 : (i + 1) % ps.length = if i + 1 = ps.length then 0 else i + 1 := by
    split
    · rename_i h; rw [h, Nat.mod_self]
    · exact Nat.mod_eq_of_lt (by omega)
  have hk2 : (k + 1) % ps.length = k + 1 := Nat.mod_eq_of_lt (by omega)
  unfold okE apE apF
  generalize mnE ps k ((k + 1) % ps.length) i ((i + 1) % ps.length) = M
  generalize eqP ps k ((k + 1) % ps.length) = E1
  generalize eqP ps i ((i + 1) % ps.length) = E2
  rw [hi2, hk2]
  cases E1 <;> cases E2 <;> simp
  by_cases h1 : k + 1 = i
  · rw [if_pos (by omega), if_pos (.inl h1)]
  · rw [if_neg (by omega)]
    by_cases h2 : k = 0 ∧ i + 1 = ps.length
    · rw [if_pos (by rw [if_pos h2.2, h2.1]), if_pos (.inr (by rw [if_pos h2.2, h2.1]))]
    · rw [if_neg (by split <;> omega), if_neg (by split <;> omega)]
theorem allap_iff {ps : List (Int × Int)} (hn : 3 ≤ ps.length) : allap ps ps.length = true ↔ ∀ i k, i < ps.length → k < ps.length → i ≠ k → okE ps i k := by
  constructor
  · intro h i k hi hk hne
    rcases Nat.lt_or_gt_of_ne hne with q | q
    · exact (apE_iff hn q hk).1 (all_at (f := fun z => apE ps z k) (all_at (f := fun z => apRow ps z z) h hk) q)
    · exact okE_symm ((apE_iff hn q hi).1 (all_at (f := fun z => apE ps z i) (all_at (f := fun z => apRow ps z z) h hi) q))
  · intro h
    unfold allap apRow
    simp only [List.all_eq_true, List.mem_range]
    exact fun i hi k hk => (apE_iff hn hk hi).2 (h k i (by omega) hi (by omega))
end Go.Proofs.YtndkhgfecnbmnaaGreat.Am.Sp

set_option linter.unusedVariables false
set_option linter.unusedSimpArgs false
namespace Go.Proofs.YtndkhgfecnbmnaaGreat.Am.Sp
open Go
theorem has2_move (dx dy : Int) (l : List (Int × Int)) (px py : Int) : has2 (l.map (move2 (dx, dy))) (px + dx) (py + dy) = has2 l px py := by
  unfold has2
  rw [List.any_map]
  congr 1
  funext z
  simp only [Function.comp, move2]
  rw [Bool.eq_iff_iff]; simp only [Bool.and_true, Bool.and_eq_true, beq_iff_eq]
  omega
theorem addp_move (dx dy : Int) (l : List (Int × Int)) (px py qx qy rx ry : Int) : addp (l.map (move2 (dx, dy))) (px + dx) (py + dy) (qx + dx) (qy + dy) (rx + dx) (ry + dy) = (addp l px py qx qy rx ry).map (move2 (dx, dy)) := by
  have e : addb (l.map (move2 (dx, dy))) (px + dx) (py + dy) (qx + dx) (qy + dy) (rx + dx) (ry + dy) = addb l px py qx qy rx ry := by
    unfold addb; rw [has2_move]; congr 1; exact onb_move2 (dx, dy) (qx, qy) (rx, ry) (px, py)
  unfold addp; rw [e]
  split
  · rw [List.map_append]; rfl
  · rfl
theorem meetN_move (dx dy ax ay bx b_y cx cy ex ey : Int) : meetN (ax + dx) (ay + dy) (bx + dx) (b_y + dy) (cx + dx) (cy + dy) (ex + dx) (ey + dy) = meetN ax ay bx b_y cx cy ex ey := by
  have hs : shr (ax + dx) (ay + dy) (bx + dx) (b_y + dy) (cx + dx) (cy + dy) (ex + dx) (ey + dy) = (shr ax ay bx b_y cx cy ex ey).map (move2 (dx, dy)) := by
    unfold shr
    rw [← addp_move, ← addp_move, ← addp_move, ← addp_move]; rfl
  unfold meetN
  rw [hs, List.length_map]
  have hp : prp (ax + dx) (ay + dy) (bx + dx) (b_y + dy) (cx + dx) (cy + dy) (ex + dx) (ey + dy) = prp ax ay bx b_y cx cy ex ey := by
    unfold prp; rw [← crs_move, ← crs_move, ← crs_move, ← crs_move]
  rw [hp]
theorem cA_move {ps : List (Int × Int)} {dx dy : Int} {m : Int} (hm : m ≤ 1000) (hf : Few m ps) (hx : -1000 ≤ dx ∧ dx ≤ 1000) (hy : -1000 ≤ dy ∧ dy ≤ 1000) {i : Nat} (hi : i < ps.length) : cA (ps.map (move2 (dx, dy))) i = cA ps i + dx ∧ cB (ps.map (move2 (dx, dy))) i = cB ps i + dy := by
  unfold cA cB; rw [getD_map hi]
  have := hf i
  simp only [move2]
  rw [lim_id (by omega) (by omega), lim_id (by omega) (by omega), lim_id (by omega) (by omega), lim_id (by omega) (by omega)]; exact ⟨rfl, rfl⟩
theorem eqP_move {ps : List (Int × Int)} {d : Int × Int} {i j : Nat} (hi : i < ps.length) (hj : j < ps.length) : eqP (ps.map (move2 d)) i j = eqP ps i j := by
  unfold eqP gx gy
  rw [getD_map hi, getD_map hj, Bool.eq_iff_iff]
  simp only [move2, Bool.and_true, Bool.and_eq_true, beq_iff_eq]; omega
theorem allap_move {ps : List (Int × Int)} {dx dy : Int} {m : Int} (hm : m ≤ 1000) (hf : Few m ps) (hx : -1000 ≤ dx ∧ dx ≤ 1000) (hy : -1000 ≤ dy ∧ dy ≤ 1000) (hn : 3 ≤ ps.length) (h : allap ps ps.length = true) : allap (ps.map (move2 (dx, dy))) (ps.map (move2 (dx, dy))).length = true := by
  rw [allap_iff (by simpa using hn)]
  rw [allap_iff hn] at h
  rw [List.length_map]
  intro i k hi hk hne
  have o := h i k hi hk hne
  have mi := Nat.mod_lt (i + 1) (show 0 < ps.length by omega)
  have mk := Nat.mod_lt (k + 1) (show 0 < ps.length by omega)
  unfold okE at *
  rw [List.length_map]
  refine ⟨⟨by rw [eqP_move hi mi]; exact o.1.1, by rw [eqP_move hk mk]; exact o.1.2⟩, ?_⟩
  rw [← o.2]
  unfold mnE
  have c := fun {j : Nat} (hj : j < ps.length) => cA_move (dx := dx) (dy := dy) hm hf hx hy hj
  rw [(c hi).1, (c hi).2, (c mi).1, (c mi).2, (c hk).1, (c hk).2, (c mk).1, (c mk).2, meetN_move]
theorem few_nok {m : Int} {ps : List (Int × Int)} (hm : m ≤ 1048576) (h : Few m ps) : ps.any nok = false := by
  rw [List.any_eq_false]
  intro q hq
  have := few_mem h hq
  unfold nok
  rw [(okb_iff q.1 q.2).2 (by omega)]; simp
theorem chk_of {ps : List (Int × Int)} (h1 : 3 ≤ ps.length) (h2 : ps.length ≤ 200) (h3 : ps.any nok = false) (h4 : allap ps ps.length = true) : chkF ps = 0 :=
  chk_0 (decide_eq_false (by omega)) (decide_eq_false (by omega)) h3 rfl h4
/-- the least corner stays the least one -/
abbrev Least (ps : List (Int × Int)) (m : Nat) : Prop := ∀ j, j < ps.length → befP (ps.getD j (0, 0)) (ps.getD m (0, 0)) = false
theorem rot_zero (ps : List (Int × Int)) : rotL ps 0 = ps := by unfold rotL; simp
end Go.Proofs.YtndkhgfecnbmnaaGreat.Am.Sp

set_option linter.unusedVariables false
set_option linter.unusedSimpArgs false
namespace Go.Proofs.YtndkhgfecnbmnaaGreat.Am.Sp
open Go
def sdX0 (ax ay bx b_y x y : Int) : Bool := decide (2 * ay < y) && (decide (y ≤ 2 * b_y) && decide (sideD ax ay bx b_y x y > 0))
def sdX (ax ay bx b_y x y : Int) : Bool := if ay > b_y then sdX0 bx b_y ax ay x y else sdX0 ax ay bx b_y x y
def sdL (qs : List (Int × Int)) (x y : Int) : Nat → Nat → Int → Int
  | 0, _, out => out
  | m + 1, k, out => sdL qs x y m (k + 1) (if sdX (gx qs k) (gy qs k) (gx qs ((k + 1) % qs.length)) (gy qs ((k + 1) % qs.length)) x y = true then 0 - out else out)
def sdF (qs : List (Int × Int)) (x y : Int) : Int := sdL qs x y qs.length 0 (-1)
def sideF (ps : List (Int × Int)) (i : Nat) (qs : List (Int × Int)) : Int := sdF qs (gx ps i + gx ps ((i + 1) % ps.length)) (gy ps i + gy ps ((i + 1) % ps.length))
section
variable {qs : List (Int × Int)} {x y out : Int} {k j : Nat}
theorem sd_cr (hk : k < qs.length) (hj : (k + 1) % qs.length = j) (h : sdX (gx qs k) (gy qs k) (gx qs j) (gy qs j) x y = true) : sdL qs x y (qs.length - (k + 1)) (k + 1) (0 - out) = sdL qs x y (qs.length - k) k out := by
  conv => rhs; rw [show qs.length - k = qs.length - (k + 1) + 1 by omega, sdL, hj, if_pos h]
theorem sd_no (hk : k < qs.length) (hj : (k + 1) % qs.length = j) (h : sdX (gx qs k) (gy qs k) (gx qs j) (gy qs j) x y = false) : sdL qs x y (qs.length - (k + 1)) (k + 1) out = sdL qs x y (qs.length - k) k out := by
  conv => rhs; rw [show qs.length - k = qs.length - (k + 1) + 1 by omega, sdL, hj, if_neg (by rw [h]; decide)]
theorem sd_end (h : ¬ k < qs.length) : sdL qs x y (qs.length - k) k out = out := by rw [show qs.length - k = 0 by omega]; rfl
variable {ax ay bx b_y : Int}
theorem sdX_s (h : decide (ay > b_y) = true) : sdX ax ay bx b_y x y = sdX0 bx b_y ax ay x y := if_pos (of_decide_eq_true h)
theorem sdX_n (h : decide (ay > b_y) = false) : sdX ax ay bx b_y x y = sdX0 ax ay bx b_y x y := if_neg (of_decide_eq_false h)
theorem sdX0_1 (h : decide (2 * ay < y) = false) : sdX0 ax ay bx b_y x y = false := by unfold sdX0; rw [h]; rfl
theorem sdX0_2 (h : decide (2 * ay < y) = true) (h2 : decide (y ≤ 2 * b_y) = false) : sdX0 ax ay bx b_y x y = false := by unfold sdX0; rw [h, h2]; rfl
theorem sdX0_3 (h : decide (2 * ay < y) = true) (h2 : decide (y ≤ 2 * b_y) = true) (h3 : decide (sideD ax ay bx b_y x y > 0) = false) : sdX0 ax ay bx b_y x y = false := by unfold sdX0; rw [h, h2, h3]; rfl
theorem sdX0_4 (h : decide (2 * ay < y) = true) (h2 : decide (y ≤ 2 * b_y) = true) (h3 : decide (sideD ax ay bx b_y x y > 0) = true) : sdX0 ax ay bx b_y x y = true := by unfold sdX0; rw [h, h2, h3]; rfl
end
/-- what two edges have in common is a corner of both -/
def eqQ (ax ay bx b_y : Int) : Bool := (ax == bx) && ((ay == b_y) && true)
def cornX (ax ay bx b_y cx cy dx dy : Int) : Bool :=
  if (meetN (lim 1048576 ax) (lim 1048576 ay) (lim 1048576 bx) (lim 1048576 b_y) (lim 1048576 cx) (lim 1048576 cy) (lim 1048576 dx) (lim 1048576 dy) == 0) = true then true
  else if (meetN (lim 1048576 ax) (lim 1048576 ay) (lim 1048576 bx) (lim 1048576 b_y) (lim 1048576 cx) (lim 1048576 cy) (lim 1048576 dx) (lim 1048576 dy) == 1) = true then
    if eqQ ax ay cx cy = true then true else if eqQ ax ay dx dy = true then true else if eqQ bx b_y cx cy = true then true else eqQ bx b_y dx dy
  else false
def cornE (ps : List (Int × Int)) (i : Nat) (qs : List (Int × Int)) (k : Nat) : Bool :=
  cornX (gx ps i) (gy ps i) (gx ps ((i + 1) % ps.length)) (gy ps ((i + 1) % ps.length)) (gx qs k) (gy qs k) (gx qs ((k + 1) % qs.length)) (gy qs ((k + 1) % qs.length))
def cornAll (ps qs : List (Int × Int)) : Bool := (List.range ps.length).all fun i => (List.range qs.length).all fun k => cornE ps i qs k
def sdAll (ps qs : List (Int × Int)) (v : Int) : Bool := (List.range ps.length).all fun i => sideF ps i qs == v
/-- two rings do not cross: the edges of the first one are on the side v of the second one, those of the second one on the side w of the first one -/
def Fit (ps qs : List (Int × Int)) (v w : Int) : Prop := cornAll ps qs = true ∧ sdAll ps qs v = true ∧ sdAll qs ps w = true
instance (ps qs : List (Int × Int)) (v w : Int) : Decidable (Fit ps qs v w) := by unfold Fit; exact inferInstance
theorem corn_at {ps qs : List (Int × Int)} {i k i2 k2 : Nat} (h : cornAll ps qs = true) (hi : i < ps.length) (hk : k < qs.length) (h1 : (i + 1) % ps.length = i2) (h2 : (k + 1) % qs.length = k2) : cornX (gx ps i) (gy ps i) (gx ps i2) (gy ps i2) (gx qs k) (gy qs k) (gx qs k2) (gy qs k2) = true := by
  subst h1 h2
  exact all_at (f := fun k => cornE ps i qs k) (all_at (f := fun i => (List.range qs.length).all fun k => cornE ps i qs k) h hi) hk
theorem side_at {ps qs : List (Int × Int)} {i : Nat} {v : Int} (h : sdAll ps qs v = true) (hi : i < ps.length) : sideF ps i qs = v := by
  have := all_at (f := fun i => sideF ps i qs == v) h hi
  simpa using this
theorem sideD_move (dx dy ax ay bx b_y x y : Int) : sideD (ax + dx) (ay + dy) (bx + dx) (b_y + dy) (x + 2 * dx) (y + 2 * dy) = sideD ax ay bx b_y x y := by unfold sideD; grind
theorem sdX_move (dx dy ax ay bx b_y x y : Int) : sdX (ax + dx) (ay + dy) (bx + dx) (b_y + dy) (x + 2 * dx) (y + 2 * dy) = sdX ax ay bx b_y x y := by
  unfold sdX sdX0
  rw [sideD_move, sideD_move, Bool.eq_iff_iff]
  (repeat' split) <;> simp only [Bool.and_eq_true, decide_eq_true_eq] <;> omega
theorem gx_move {ps : List (Int × Int)} {dx dy : Int} {i : Nat} (h : i < ps.length) : gx (ps.map (move2 (dx, dy))) i = gx ps i + dx ∧ gy (ps.map (move2 (dx, dy))) i = gy ps i + dy := by
  unfold gx gy; rw [getD_map h]; exact ⟨rfl, rfl⟩
theorem sdL_move {qs : List (Int × Int)} (dx dy x y : Int) : ∀ (m k : Nat) (out : Int), k + m = qs.length → sdL (qs.map (move2 (dx, dy))) (x + 2 * dx) (y + 2 * dy) m k out = sdL qs x y m k out
  | 0, k, out, _ => rfl
  | m + 1, k, out, h => by
    have hm := Nat.mod_lt (k + 1) (show 0 < qs.length by omega)
    unfold sdL
    rw [List.length_map, (gx_move (dx := dx) (dy := dy) (show k < qs.length by omega)).1, (gx_move (dx := dx) (dy := dy) (show k < qs.length by omega)).2, (gx_move (dx := dx) (dy := dy) hm).1, (gx_move (dx := dx) (dy := dy) hm).2, sdX_move]
    exact sdL_move dx dy x y m (k + 1) _ (by omega)
theorem sideF_move {ps qs : List (Int × Int)} {dx dy : Int} {i : Nat} (hi : i < ps.length) : sideF (ps.map (move2 (dx, dy))) i (qs.map (move2 (dx, dy))) = sideF ps i qs := by
  have hm := Nat.mod_lt (i + 1) (show 0 < ps.length by omega)
  unfold sideF sdF
  rw [List.length_map, List.length_map, (gx_move (dx := dx) (dy := dy) hi).1, (gx_move (dx := dx) (dy := dy) hi).2, (gx_move (dx := dx) (dy := dy) hm).1, (gx_move (dx := dx) (dy := dy) hm).2]
  rw [show gx ps i + dx + (gx ps ((i + 1) % ps.length) + dx) = gx ps i + gx ps ((i + 1) % ps.length) + 2 * dx by omega, show gy ps i + dy + (gy ps ((i + 1) % ps.length) + dy) = gy ps i + gy ps ((i + 1) % ps.length) + 2 * dy by omega]
  exact sdL_move dx dy _ _ qs.length 0 (-1) (by omega)
theorem eqQ_move (dx dy ax ay bx b_y : Int) : eqQ (ax + dx) (ay + dy) (bx + dx) (b_y + dy) = eqQ ax ay bx b_y := by
  unfold eqQ; rw [Bool.eq_iff_iff]; simp only [Bool.and_true, Bool.and_eq_true, beq_iff_eq]; omega
theorem cornE_move {ps qs : List (Int × Int)} {dx dy : Int} {i k : Nat} (hp : Few 200 ps) (hq : Few 200 qs) (hx : -1000 ≤ dx ∧ dx ≤ 1000) (hy : -1000 ≤ dy ∧ dy ≤ 1000) (hi : i < ps.length) (hk : k < qs.length) : cornE (ps.map (move2 (dx, dy))) i (qs.map (move2 (dx, dy))) k = cornE ps i qs k := by
  have hm := Nat.mod_lt (i + 1) (show 0 < ps.length by omega)
  have hn := Nat.mod_lt (k + 1) (show 0 < qs.length by omega)
  have b1 : _ ∧ _ := hp i
  have b2 : _ ∧ _ := hp ((i + 1) % ps.length)
  have b3 : _ ∧ _ := hq k
  have b4 : _ ∧ _ := hq ((k + 1) % qs.length)
  unfold cornE
  rw [List.length_map, List.length_map, (gx_move (dx := dx) (dy := dy) hi).1, (gx_move (dx := dx) (dy := dy) hi).2, (gx_move (dx := dx) (dy := dy) hm).1, (gx_move (dx := dx) (dy := dy) hm).2, (gx_move (dx := dx) (dy := dy) hk).1, (gx_move (dx := dx) (dy := dy) hk).2, (gx_move (dx := dx) (dy := dy) hn).1, (gx_move (dx := dx) (dy := dy) hn).2]
  unfold gx gy
  generalize (ps.getD i (0, 0)).1 = a1 at *
  generalize (ps.getD i (0, 0)).2 = a2 at *
  generalize (ps.getD ((i + 1) % ps.length) (0, 0)).1 = a3 at *
  generalize (ps.getD ((i + 1) % ps.length) (0, 0)).2 = a4 at *
  generalize (qs.getD k (0, 0)).1 = c1 at *
  generalize (qs.getD k (0, 0)).2 = c2 at *
  generalize (qs.getD ((k + 1) % qs.length) (0, 0)).1 = c3 at *
  generalize (qs.getD ((k + 1) % qs.length) (0, 0)).2 = c4 at *
  unfold cornX
  have L : ∀ z : Int, -200 ≤ z ∧ z ≤ 200 → lim 1048576 z = z := fun z hz => lim_id (by omega) (by omega)
  have M : ∀ z d : Int, -200 ≤ z ∧ z ≤ 200 → -1000 ≤ d ∧ d ≤ 1000 → lim 1048576 (z + d) = z + d := fun z d hz hd => lim_id (by omega) (by omega)
  rw [M a1 dx b1.1 hx, M a2 dy b1.2 hy, M a3 dx b2.1 hx, M a4 dy b2.2 hy, M c1 dx b3.1 hx, M c2 dy b3.2 hy, M c3 dx b4.1 hx, M c4 dy b4.2 hy, L a1 b1.1, L a2 b1.2, L a3 b2.1, L a4 b2.2, L c1 b3.1, L c2 b3.2, L c3 b4.1, L c4 b4.2, meetN_move, eqQ_move, eqQ_move, eqQ_move, eqQ_move]
theorem fit_move {ps qs : List (Int × Int)} {dx dy v w : Int} (hp : Few 200 ps) (hq : Few 200 qs) (hx : -1000 ≤ dx ∧ dx ≤ 1000) (hy : -1000 ≤ dy ∧ dy ≤ 1000) (h : Fit ps qs v w) : Fit (ps.map (move2 (dx, dy))) (qs.map (move2 (dx, dy))) v w := by
  obtain ⟨h1, h2, h3⟩ := h
  refine ⟨?_, ?_, ?_⟩
  · unfold cornAll
    simp only [List.all_eq_true, List.mem_range, List.length_map]
    intro i hi k hk
    rw [cornE_move hp hq hx hy hi hk]
    exact all_at (f := fun k => cornE ps i qs k) (all_at (f := fun i => (List.range qs.length).all fun k => cornE ps i qs k) h1 hi) hk
  · unfold sdAll
    simp only [List.all_eq_true, List.mem_range, List.length_map, beq_iff_eq]
    intro i hi
    rw [sideF_move hi]; exact side_at h2 hi
  · unfold sdAll
    simp only [List.all_eq_true, List.mem_range, List.length_map, beq_iff_eq]
    intro i hi
    rw [sideF_move hi]; exact side_at h3 hi
def sqr (x y r : Int) : List (Int × Int) := [(x - r, y - r), (x + r, y - r), (x + r, y + r), (x - r, y + r)]
def hol (x y r : Int) : List (Int × Int) := [(x - r, y - r), (x - r, y + r), (x + r, y + r), (x + r, y - r)]
theorem sqr_move (x y r dx : Int) : sqr (x + dx) y r = (sqr dx 0 r).map (move2 (x, y)) := by
  simp only [sqr, List.map_cons, List.map_nil, move2, List.cons.injEq, Prod.mk.injEq, and_true]; omega
theorem sqr_at (x y r : Int) : sqr x y r = (sqr 0 0 r).map (move2 (x, y)) := by have := sqr_move x y r 0; rwa [Int.add_zero] at this
theorem hol_at (x y r : Int) : hol x y r = (hol 0 0 r).map (move2 (x, y)) := by
  simp only [hol, List.map_cons, List.map_nil, move2, List.cons.injEq, Prod.mk.injEq, and_true]; omega
theorem few_sqr {x y r m : Int} (hr : 0 ≤ r) (hx : -m ≤ x - r ∧ x + r ≤ m) (hy : -m ≤ y - r ∧ y + r ≤ m) : Few m (sqr x y r) ∧ Few m (hol x y r) :=
  ⟨few_of (by omega) (by simp only [sqr, List.mem_cons, List.not_mem_nil, or_false, forall_eq_or_imp, forall_eq]; omega), few_of (by omega) (by simp only [hol, List.mem_cons, List.not_mem_nil, or_false, forall_eq_or_imp, forall_eq]; omega)⟩
set_option maxRecDepth 100000 in
theorem sq_ring : ((List.range 16).all fun r => r == 0 || (allap (sqr 0 0 r) 4 && allap (hol 0 0 r) 4)) = true := by decide +kernel
set_option maxRecDepth 100000 in
theorem sq_hol : ((List.range 16).all fun r => Nat.blt r 6 || (List.range (r - 2)).all fun k => decide (Fit (hol 0 0 (k + 1 : Nat)) (sqr 0 0 r) 1 (-1))) = true := by decide +kernel
set_option maxRecDepth 100000 in
theorem sq_sq : ((List.range 16).all fun r => Nat.blt r 6 || (List.range (r - 4)).all fun j => decide (Fit (sqr 0 0 (j + 1 : Nat)) (sqr 0 0 r) 1 (-1))) = true := by decide +kernel
set_option maxRecDepth 100000 in
theorem hol_sq : ((List.range 14).all fun k => Nat.blt k 3 || (List.range (k - 2)).all fun j => decide (Fit (sqr 0 0 (j + 1 : Nat)) (hol 0 0 k) 1 (-1))) = true := by decide +kernel
set_option maxRecDepth 100000 in
theorem sq_by : ((List.range 16).all fun r => Nat.blt r 6 || (List.range 3).all fun d => decide (Fit (sqr (r + 3 + d : Nat) 0 2) (sqr 0 0 r) (-1) (-1))) = true := by decide +kernel
end Go.Proofs.YtndkhgfecnbmnaaGreat.Am.Sp

set_option linter.unusedVariables false
set_option linter.unusedSimpArgs false
namespace Go.Proofs.YtndkhgfecnbmnaaGreat.Am.Sp
open Go
theorem sq_good {x y r : Int} (h1 : 1 ≤ r) (h2 : r ≤ 15) (hx : -60 ≤ x ∧ x ≤ 60) (hy : -60 ≤ y ∧ y ≤ 60) : chkF (sqr x y r) = 0 ∧ chkF (hol x y r) = 0 := by
  obtain ⟨n, rfl⟩ : ∃ n : Nat, r = (n : Int) := ⟨r.toNat, by omega⟩
  have h := all_at (f := fun r : Nat => r == 0 || (allap (sqr 0 0 r) 4 && allap (hol 0 0 r) 4)) sq_ring (show n < 16 by omega)
  simp only [Bool.or_eq_true, beq_iff_eq, Bool.and_eq_true] at h
  have h : allap (sqr 0 0 n) 4 = true ∧ allap (hol 0 0 n) 4 = true := h.resolve_left (by omega)
  have f0 := few_sqr (x := 0) (y := 0) (r := (n : Int)) (m := 200) (by omega) (by omega) (by omega)
  have f1 := few_sqr (x := x) (y := y) (r := (n : Int)) (m := 200) (by omega) (by omega) (by omega)
  constructor
  · refine chk_of (by simp [sqr]) (by simp [sqr]) (few_nok (by decide) f1.1) ?_
    rw [sqr_at]; exact allap_move (m := 200) (by decide) f0.1 (by omega) (by omega) (by simp [sqr]) h.1
  · refine chk_of (by simp [hol]) (by simp [hol]) (few_nok (by decide) f1.2) ?_
    rw [hol_at]; exact allap_move (m := 200) (by decide) f0.2 (by omega) (by omega) (by simp [hol]) h.2
section
variable {x y r k j d : Int}
theorem blt6 {a b : Nat} (h : b ≤ a) : Nat.blt a b = false := by
  rcases Bool.eq_false_or_eq_true (Nat.blt a b) with q | q
  · have := Nat.le_of_ble_eq_true q; omega
  · exact q
theorem fit_hs (h1 : 6 ≤ r) (h2 : r ≤ 15) (k1 : 1 ≤ k) (k2 : k ≤ r - 2) (hx : -60 ≤ x ∧ x ≤ 60) (hy : -60 ≤ y ∧ y ≤ 60) : Fit (hol x y k) (sqr x y r) 1 (-1) := by
  obtain ⟨n, rfl⟩ : ∃ n : Nat, r = (n : Int) := ⟨r.toNat, by omega⟩
  obtain ⟨m, rfl⟩ : ∃ m : Nat, k = ((m + 1 : Nat) : Int) := ⟨(k - 1).toNat, by omega⟩
  have h := all_at (f := fun r : Nat => Nat.blt r 6 || (List.range (r - 2)).all fun k : Nat => decide (Fit (hol 0 0 (k + 1 : Nat)) (sqr 0 0 r) 1 (-1))) sq_hol (show n < 16 by omega)
  rw [blt6 (show 6 ≤ n by omega), Bool.false_or] at h
  have h := of_decide_eq_true (all_at (f := fun k : Nat => decide (Fit (hol 0 0 (k + 1 : Nat)) (sqr 0 0 n) 1 (-1))) h (show m < n - 2 by omega))
  rw [hol_at, sqr_at]
  exact fit_move (few_sqr (m := 200) (by omega) (by omega) (by omega)).2 (few_sqr (m := 200) (by omega) (by omega) (by omega)).1 (by omega) (by omega) h
theorem fit_ss (h1 : 6 ≤ r) (h2 : r ≤ 15) (k1 : 1 ≤ j) (k2 : j ≤ r - 4) (hx : -60 ≤ x ∧ x ≤ 60) (hy : -60 ≤ y ∧ y ≤ 60) : Fit (sqr x y j) (sqr x y r) 1 (-1) := by
  obtain ⟨n, rfl⟩ : ∃ n : Nat, r = (n : Int) := ⟨r.toNat, by omega⟩
  obtain ⟨m, rfl⟩ : ∃ m : Nat, j = ((m + 1 : Nat) : Int) := ⟨(j - 1).toNat, by omega⟩
  have h := all_at (f := fun r : Nat => Nat.blt r 6 || (List.range (r - 4)).all fun k : Nat => decide (Fit (sqr 0 0 (k + 1 : Nat)) (sqr 0 0 r) 1 (-1))) sq_sq (show n < 16 by omega)
  rw [blt6 (show 6 ≤ n by omega), Bool.false_or] at h
  have h := of_decide_eq_true (all_at (f := fun k : Nat => decide (Fit (sqr 0 0 (k + 1 : Nat)) (sqr 0 0 n) 1 (-1))) h (show m < n - 4 by omega))
  rw [sqr_at, sqr_at x y n]
  exact fit_move (few_sqr (m := 200) (by omega) (by omega) (by omega)).1 (few_sqr (m := 200) (by omega) (by omega) (by omega)).1 (by omega) (by omega) h
theorem fit_sh (h1 : 3 ≤ k) (h2 : k ≤ 13) (k1 : 1 ≤ j) (k2 : j ≤ k - 2) (hx : -60 ≤ x ∧ x ≤ 60) (hy : -60 ≤ y ∧ y ≤ 60) : Fit (sqr x y j) (hol x y k) 1 (-1) := by
  obtain ⟨n, rfl⟩ : ∃ n : Nat, k = (n : Int) := ⟨k.toNat, by omega⟩
  obtain ⟨m, rfl⟩ : ∃ m : Nat, j = ((m + 1 : Nat) : Int) := ⟨(j - 1).toNat, by omega⟩
  have h := all_at (f := fun r : Nat => Nat.blt r 3 || (List.range (r - 2)).all fun k : Nat => decide (Fit (sqr 0 0 (k + 1 : Nat)) (hol 0 0 r) 1 (-1))) hol_sq (show n < 14 by omega)
  rw [blt6 (show 3 ≤ n by omega), Bool.false_or] at h
  have h := of_decide_eq_true (all_at (f := fun k : Nat => decide (Fit (sqr 0 0 (k + 1 : Nat)) (hol 0 0 n) 1 (-1))) h (show m < n - 2 by omega))
  rw [sqr_at, hol_at x y n]
  exact fit_move (few_sqr (m := 200) (by omega) (by omega) (by omega)).1 (few_sqr (m := 200) (by omega) (by omega) (by omega)).2 (by omega) (by omega) h
theorem fit_by (h1 : 6 ≤ r) (h2 : r ≤ 15) (d1 : 0 ≤ d) (d2 : d ≤ 2) (hx : -60 ≤ x ∧ x ≤ 60) (hy : -60 ≤ y ∧ y ≤ 60) : Fit (sqr (x + r + 3 + d) y 2) (sqr x y r) (-1) (-1) := by
  obtain ⟨n, rfl⟩ : ∃ n : Nat, r = (n : Int) := ⟨r.toNat, by omega⟩
  obtain ⟨m, rfl⟩ : ∃ m : Nat, d = (m : Int) := ⟨d.toNat, by omega⟩
  have h := all_at (f := fun r : Nat => Nat.blt r 6 || (List.range 3).all fun d : Nat => decide (Fit (sqr (r + 3 + d : Nat) 0 2) (sqr 0 0 r) (-1) (-1))) sq_by (show n < 16 by omega)
  rw [blt6 (show 6 ≤ n by omega), Bool.false_or] at h
  have h := of_decide_eq_true (all_at (f := fun d : Nat => decide (Fit (sqr (n + 3 + d : Nat) 0 2) (sqr 0 0 n) (-1) (-1))) h (show m < 3 by omega))
  rw [show x + (n : Int) + 3 + (m : Int) = x + ((n + 3 + m : Nat) : Int) by omega, sqr_move, sqr_at x y n]
  exact fit_move (few_sqr (m := 200) (by omega) (by omega) (by omega)).1 (few_sqr (m := 200) (by omega) (by omega) (by omega)).1 (by omega) (by omega) h
end
def inB (lx ly hx hy : Int) (q : Int × Int) : Prop := (lx ≤ q.1 ∧ q.1 ≤ hx) ∧ (ly ≤ q.2 ∧ q.2 ≤ hy)
theorem on_inB {lx ly hx hy : Int} {a b p : Int × Int} (ha : inB lx ly hx hy a) (hb : inB lx ly hx hy b) (h : onb a.1 a.2 b.1 b.2 p.1 p.2 = true) : inB lx ly hx hy p := by
  rw [← lies_on] at h
  simp only [Bool.and_eq_true, btw_iff] at h
  unfold inB at *; omega
theorem onany_inB {lx ly hx hy : Int} {p : Int × Int} : ∀ (l : List (Int × Int)) (a : Int × Int), inB lx ly hx hy a → (∀ q ∈ l, inB lx ly hx hy q) → onany p a l = true → inB lx ly hx hy p
  | [], a, _, _, h => by simp [onany] at h
  | b :: r, a, ha, hl, h => by
    unfold onany at h
    rw [Bool.or_eq_true] at h
    rcases h with h | h
    · exact on_inB ha (hl b (by simp)) h
    · exact onany_inB r b (hl b (by simp)) (fun q hq => hl q (by simp [hq])) h
def blw (p q : Int × Int) : Bool := decide (q.2 < p.2)
theorem cR_right {lx ly hx hy : Int} {a b p : Int × Int} (ha : inB lx ly hx hy a) (hb : inB lx ly hx hy b) (h : hx < p.1 ∨ hy < p.2 ∨ p.2 < ly) : cR p a b = false := by
  rcases Bool.eq_false_or_eq_true (cR p a b) with q | q
  · exfalso
    unfold cR at q
    rw [crR_iff] at q
    unfold inB at *
    rcases h with h | h | h
    · rcases q with ⟨_, ⟨q1, q2⟩, q3⟩ | ⟨_, ⟨q1, q2⟩, q3⟩
      · have m1 : (a.2 - p.2) * (b.1 - p.1) ≤ 0 := Int.mul_nonpos_of_nonneg_of_nonpos q2 (by omega)
        have m2 : 0 < (a.1 - p.1) * (b.2 - p.2) := Int.mul_pos_of_neg_of_neg (by omega) q1
        omega
      · have m1 : (a.1 - p.1) * (b.2 - p.2) ≤ 0 := Int.mul_nonpos_of_nonpos_of_nonneg (by omega) q2
        have m2 : 0 < (a.2 - p.2) * (b.1 - p.1) := Int.mul_pos_of_neg_of_neg q1 (by omega)
        omega
    · omega
    · omega
  · exact q
theorem cR_left {lx ly hx hy : Int} {a b p : Int × Int} (ha : inB lx ly hx hy a) (hb : inB lx ly hx hy b) (h : p.1 < lx) : cR p a b = (blw p a != blw p b) := by
  have e : cR p a b = true ↔ (blw p a != blw p b) = true := by
    unfold cR blw
    rw [crR_iff]
    unfold inB at *
    have key : (decide (a.2 < p.2) != decide (b.2 < p.2)) = true ↔ ((b.2 < p.2 ∧ p.2 ≤ a.2) ∨ (a.2 < p.2 ∧ p.2 ≤ b.2)) := by
      by_cases c1 : a.2 < p.2 <;> by_cases c2 : b.2 < p.2 <;> simp [c1, c2] <;> omega
    rw [key]
    constructor
    · rintro (⟨_, ⟨q1, q2⟩, _⟩ | ⟨_, ⟨q1, q2⟩, _⟩)
      · exact .inl (by omega)
      · exact .inr (by omega)
    · rintro (q | q)
      · refine .inl ⟨by omega, by omega, ?_⟩
        have m1 : 0 ≤ (a.2 - p.2) * (b.1 - p.1) := Int.mul_nonneg (by omega) (by omega)
        have m2 : (a.1 - p.1) * (b.2 - p.2) < 0 := Int.mul_neg_of_pos_of_neg (by omega) (by omega)
        omega
      · refine .inr ⟨by omega, by omega, ?_⟩
        have m1 : 0 ≤ (a.1 - p.1) * (b.2 - p.2) := Int.mul_nonneg (by omega) (by omega)
        have m2 : (a.2 - p.2) * (b.1 - p.1) < 0 := Int.mul_neg_of_neg_of_pos (by omega) (by omega)
        omega
  rw [Bool.eq_iff_iff]; exact e
theorem xor_none {f : Int × Int → Int × Int → Bool} {B : Int × Int → Prop} (hf : ∀ a b, B a → B b → f a b = false) : ∀ (l : List (Int × Int)) (a : Int × Int), B a → (∀ q ∈ l, B q) → xorp f a l = false
  | [], a, _, _ => rfl
  | b :: r, a, ha, hl => by unfold xorp; rw [hf a b ha (hl b (by simp)), xor_none hf r b (hl b (by simp)) (fun q hq => hl q (by simp [hq]))]; rfl
theorem xor_ends {f : Int × Int → Int × Int → Bool} {g : Int × Int → Bool} {B : Int × Int → Prop} (hf : ∀ a b, B a → B b → f a b = (g a != g b)) : ∀ (l : List (Int × Int)) (a : Int × Int), B a → (∀ q ∈ l, B q) → xorp f a l = (g a != g (lastp a l))
  | [], a, _, _ => by simp [xorp, lastp]
  | b :: r, a, ha, hl => by
    unfold xorp lastp
    rw [hf a b ha (hl b (by simp)), xor_ends hf r b (hl b (by simp)) (fun q hq => hl q (by simp [hq]))]
    cases g a <;> cases g b <;> cases g (lastp b r) <;> rfl
theorem has_inB {ps : List (Int × Int)} {x y lx ly hx hy : Int} (hb : ∀ q ∈ ps, inB lx ly hx hy (limp q)) (h : 0 ≤ hasF ps x y 0 (-1)) : inB lx ly hx hy (x, y) := by
  cases ps with
  | nil => rw [hasF_end (by simp)] at h; omega
  | cons a t =>
    rw [hasF_eq] at h
    have ha : inB lx ly hx hy (limp a) := hb a (by simp)
    have hl : ∀ q ∈ t.map limp ++ [limp a], inB lx ly hx hy q := by
      intro q hq
      rcases List.mem_append.1 hq with k | k
      · obtain ⟨z, hz, rfl⟩ := List.mem_map.1 k; exact hb z (by simp [hz])
      · rw [List.mem_singleton.1 k]; exact ha
    unfold hasv at h
    split at h
    · rename_i c; exact onany_inB _ _ ha hl c
    · split at h
      · rename_i c
        show (lx ≤ x ∧ x ≤ hx) ∧ (ly ≤ y ∧ y ≤ hy)
        refine Decidable.byContradiction fun n => ?_
        have n' : hx < x ∨ (hy < y ∨ y < ly) ∨ x < lx := by omega
        rcases n' with n' | n' | n'
        · rw [xor_none (B := inB lx ly hx hy) (fun a b ha hb => cR_right ha hb (.inl n')) _ _ ha hl] at c; cases c
        · rw [xor_none (B := inB lx ly hx hy) (fun a b ha hb => cR_right ha hb (.inr n')) _ _ ha hl] at c; cases c
        · rw [xor_ends (B := inB lx ly hx hy) (g := blw (x, y)) (fun a b ha hb => cR_left ha hb n') _ _ ha hl, lastp_snoc] at c
          simp at c
      · omega
def bxr (ps : List (Int × Int)) : Nat → Int × Int × Int × Int
  | 0 => (0, 0, 0, 0)
  | k + 1 => if k = 0 then (mn (ps.getD k (0, 0)).1 (ps.getD k (0, 0)).1, mn (ps.getD k (0, 0)).2 (ps.getD k (0, 0)).2, mx (ps.getD k (0, 0)).1 (ps.getD k (0, 0)).1, mx (ps.getD k (0, 0)).2 (ps.getD k (0, 0)).2)
    else (mn (bxr ps k).1 (ps.getD k (0, 0)).1, mn (bxr ps k).2.1 (ps.getD k (0, 0)).2, mx (bxr ps k).2.2.1 (ps.getD k (0, 0)).1, mx (bxr ps k).2.2.2 (ps.getD k (0, 0)).2)
theorem bxr_0 {ps : List (Int × Int)} {k : Nat} (h : k = 0) : bxr ps (k + 1) = (mn (ps.getD k (0, 0)).1 (ps.getD k (0, 0)).1, mn (ps.getD k (0, 0)).2 (ps.getD k (0, 0)).2, mx (ps.getD k (0, 0)).1 (ps.getD k (0, 0)).1, mx (ps.getD k (0, 0)).2 (ps.getD k (0, 0)).2) := if_pos h
theorem bxr_n {ps : List (Int × Int)} {k : Nat} (h : ¬ k = 0) : bxr ps (k + 1) = (mn (bxr ps k).1 (ps.getD k (0, 0)).1, mn (bxr ps k).2.1 (ps.getD k (0, 0)).2, mx (bxr ps k).2.2.1 (ps.getD k (0, 0)).1, mx (bxr ps k).2.2.2 (ps.getD k (0, 0)).2) := if_neg h
theorem mn_both (a b : Int) : mn a b ≤ a ∧ mn a b ≤ b := by unfold mn; split <;> omega
theorem mx_both (a b : Int) : a ≤ mx a b ∧ b ≤ mx a b := by unfold mx; split <;> omega
theorem bxr_in (ps : List (Int × Int)) : ∀ k j, j < k → inB (bxr ps k).1 (bxr ps k).2.1 (bxr ps k).2.2.1 (bxr ps k).2.2.2 (ps.getD j (0, 0))
  | 0, j, h => by omega
  | k + 1, j, h => by
    by_cases c : k = 0
    · rw [bxr_0 c, show j = k by omega]
      have a := mn_both (ps.getD k (0, 0)).1 (ps.getD k (0, 0)).1; have b := mn_both (ps.getD k (0, 0)).2 (ps.getD k (0, 0)).2
      have d := mx_both (ps.getD k (0, 0)).1 (ps.getD k (0, 0)).1; have e := mx_both (ps.getD k (0, 0)).2 (ps.getD k (0, 0)).2
      unfold inB; simp only; omega
    · rw [bxr_n c]
      have a := mn_both (bxr ps k).1 (ps.getD k (0, 0)).1; have b := mn_both (bxr ps k).2.1 (ps.getD k (0, 0)).2
      have d := mx_both (bxr ps k).2.2.1 (ps.getD k (0, 0)).1; have e := mx_both (bxr ps k).2.2.2 (ps.getD k (0, 0)).2
      rcases Nat.eq_or_lt_of_le (show j ≤ k by omega) with rfl | q
      · unfold inB; simp only; omega
      · have := bxr_in ps k j q
        unfold inB at *; simp only; omega
def ahF : List Int → Int → Int
  | [], out => out
  | h :: t, out => if (h == 0) = true then 0 else if (h == 1) = true then ahF t (0 - out) else ahF t out
theorem has_cases (ps : List (Int × Int)) (x y : Int) : hasF ps x y 0 (-1) = 0 ∨ hasF ps x y 0 (-1) = 1 ∨ hasF ps x y 0 (-1) = -1 := by
  cases ps with
  | nil => rw [hasF_end (by simp)]; omega
  | cons a t => rw [hasF_eq]; unfold hasv; (repeat' split) <;> omega
end Go.Proofs.YtndkhgfecnbmnaaGreat.Am.Sp
set_option linter.unusedVariables false
set_option linter.unusedSimpArgs false
namespace Go.Proofs.YtndkhgfecnbmnaaGreat.Am.Sp
open Go
def cnt1 (hs : List Int) : Nat := (hs.filter (· == 1)).length
theorem ahF_val : ∀ (hs : List Int) (out : Int), ahF hs out = if hs.any (· == 0) = true then 0 else if cnt1 hs % 2 = 0 then out else 0 - out
  | [], out => by simp [ahF, cnt1]
  | h :: t, out => by
    unfold ahF
    by_cases h0 : (h == 0) = true
    · rw [if_pos h0, if_pos (by simp [h0])]
    · rw [if_neg h0]
      have ha : (h :: t).any (· == 0) = t.any (· == 0) := by rw [List.any_cons]; simp only [Bool.not_eq_true] at h0; rw [h0, Bool.false_or]
      rw [ha]
      by_cases h1 : (h == 1) = true
      · have hc : cnt1 (h :: t) = cnt1 t + 1 := by unfold cnt1; rw [List.filter_cons_of_pos (by simpa using h1)]; rfl
        rw [if_pos h1, ahF_val t, hc]
        (repeat' split) <;> omega
      · have hc : cnt1 (h :: t) = cnt1 t := by unfold cnt1; rw [List.filter_cons_of_neg (by simpa using h1)]
        rw [if_neg h1, ahF_val t, hc]
end Go.Proofs.YtndkhgfecnbmnaaGreat.Am.Sp

namespace Go.Proofs.YtndkhgfecnbmnaaGreat.Am
open Go
set_option linter.unusedVariables false
set_option linter.unusedSimpArgs false
theorem set_pair {ps : List (Int × Int)} {j off : Nat} {x y : Int} (ho : off = 2 * j) (hj : j < ps.length) : setL (ps.flatMap ptc) off [.int .i64 x, .int .i64 y] = (ps.set j (x, y)).flatMap ptc := by
  subst ho
  simp only [setL]
  induction ps generalizing j with
  | nil => simp at hj
  | cons p r ih =>
    cases j with
    | zero => simp [ptc]
    | succ j =>
      have h := ih (j := j) (by simpa using hj)
      rw [List.set_cons_succ, List.flatMap_cons, List.flatMap_cons, ← h]
      rw [show 2 * (j + 1) = 2 * j + 1 + 1 by omega, show 2 * j + 1 + 1 + 1 = 2 * j + 1 + 1 + 1 by rfl]
      simp [ptc]
theorem plain_pairs (ps : List (Int × Int)) : plainAll (ps.flatMap ptc) = true := by
  unfold plainAll
  rw [List.all_eq_true]
  intro v hv
  obtain ⟨p, _, hp⟩ := List.mem_flatMap.1 hv
  simp only [ptc, List.mem_cons, List.not_mem_nil, or_false] at hp
  rcases hp with rfl | rfl <;> rfl
theorem cut_pairs {ps : List (Int × Int)} {off j m k : Nat} (ho : off = 2 * j) (hm : m = 2 * k) : ((ps.flatMap ptc).drop off).take m = ((ps.drop j).take k).flatMap ptc := by
  subst ho hm
  have hd : ∀ (n : Nat) (l : List (Int × Int)), (l.flatMap ptc).drop (2 * n) = (l.drop n).flatMap ptc := by
    intro n
    induction n with
    | zero => intro l; rfl
    | succ n ih =>
      intro l
      cases l with
      | nil => simp
      | cons p r => rw [List.flatMap_cons, show 2 * (n + 1) = 2 * n + 1 + 1 by omega, List.drop_succ_cons, ← ih r]; simp [ptc]
  have ht : ∀ (n : Nat) (l : List (Int × Int)), (l.flatMap ptc).take (2 * n) = (l.take n).flatMap ptc := by
    intro n
    induction n with
    | zero => intro l; simp
    | succ n ih =>
      intro l
      cases l with
      | nil => simp
      | cons p r => rw [List.flatMap_cons, show 2 * (n + 1) = 2 * n + 1 + 1 by omega, List.take_succ_cons, List.flatMap_cons, ← ih r]; simp [ptc]
  rw [hd, ht]
theorem plain_cut {l : List Value} (h : plainAll l = true) (a b : Nat) : plainAll ((l.drop a).take b) = true := by
  unfold plainAll at *
  rw [List.all_eq_true] at *
  exact fun v hv => h v (List.mem_of_mem_drop (List.mem_of_mem_take hv))
section
variable {C : Ctx} {P : Program} {ops : Array Oper} {S : St} {i : Nat}
theorem does_apg (N k' e z bt k n k2 off2 m : Nat) (b b2 : Blk) (l : List Value) (h1 : apyAt P ops S i = some (e, z, bt, some (.slice (some ⟨k, 0, none⟩) n 0), some (.slice (some ⟨k2, off2, none⟩) m 0)))
    (hH : S.H k = .live b) (hH2 : S.H k2 = .live b2) (hK : S.H k' = .fresh) (hz : (b.own && Nat.beq b.elem e && Nat.beq b.step z) = true) (hp : plainAll b2.cells = true) (hn : n * z ≤ b.cells.length) (ho : off2 + m * z ≤ b2.cells.length)
    (hc : 1 ≤ m ∨ (1 ≤ n ∧ b.cells.length = n * z)) (hB : (n + m) * bt ≤ 140737488355328) (hM : n + m ≤ 4611686018427387904) (hl : b.cells.take (n * z) ++ (b2.cells.drop off2).take (m * z) = l) (hN : n + m = N) :
    Does C P ops i S ⟨[k, k2, k'], .slice (some ⟨k', 0, none⟩) N 0, [(k, .gone), (k', .live ⟨l, e, true, z⟩)]⟩ := by
  subst hN
  unfold apyAt at h1
  split at h1
  · rename_i x y t e' inf zv hs
    simp only [Option.some.injEq, Prod.mk.injEq] at h1
    obtain ⟨rfl, rfl, rfl, hx, hy⟩ := h1
    have hz' := hz
    simp only [Bool.and_eq_true] at hz
    obtain ⟨⟨z1, z2⟩, z3⟩ := hz
    rcases Nat.eq_zero_or_pos m with rfl | hpos
    · rcases hc with hc | ⟨hn1, hc⟩
      · omega
      · rw [Nat.zero_mul, List.take_zero, List.append_nil, List.take_of_length_le (by omega)] at hl
        subst hl
        exact does_append0 hs hx hy hH hK hn1 hz'
    · have h := does_append (C := C) (P := P) (ops := ops) (S := S) (i := i) hs hx hy hH hH2 hK (by
        simp only [Bool.and_eq_true]
        exact ⟨⟨⟨⟨⟨⟨z1, z2⟩, z3⟩, plain_cut hp _ _⟩, Nat.ble_eq_true_of_le (by omega)⟩, Nat.ble_eq_true_of_le ho⟩, Nat.ble_eq_true_of_le hpos⟩) hB hM
      rw [List.drop_zero, hl] at h
      exact h
  · cases h1
def apzAt (P : Program) (ops : Array Oper) (S : St) (i : Nat) : Option (Operand × Operand × TypeId × TypeId × TypeId × IntKind × TypeInfo × Value) := match shapeAt ops S i with
  | some (.call c, true) => match c.callee with
    | .builtin b => match b with
      | .append => match c.args.toList, c.argTypes.toList with
        | [x, y], [t, t'] => match sliceElem P t with
          | some e => match P.underlying t' with
            | some (.int kn) => match P.info? e with
              | some inf => match inf.zero with
                | some z => bif (Nat.beq z.cells.size inf.size && Nat.ble 1 inf.size) then some (x, y, t, t', e, kn, inf, z) else none
                | none => none
              | none => none
            | _ => none
          | none => none
        | _, _ => none
      | _ => none
    | _ => none
  | _ => none
theorem apzAt_spec {x y : Operand} {t t' e : TypeId} {kn : IntKind} {inf : TypeInfo} {z : Value} (h : apzAt P ops S i = some (x, y, t, t', e, kn, inf, z)) :
    shapeAt ops S i = some (.call ⟨.builtin .append, #[x, y], #[t, t']⟩, true) ∧ P.underlying t = some (.slice e) ∧ P.underlying t' = some (.int kn) ∧ P.info? e = some inf ∧ inf.zero = some z ∧ z.cells.size = inf.size ∧ 0 < inf.size := by
  unfold apzAt at h
  split at h
  · rename_i c hsh
    obtain ⟨cal, ars, ats⟩ := c
    simp only at h
    split at h
    · split at h
      · split at h
        · rename_i x' y' t1 t2 hars hats
          split at h
          · rename_i e' he
            split at h
            · rename_i kn' hkn
              split at h
              · rename_i inf' hi
                split at h
                · rename_i z' hz
                  obtain ⟨hq, hh⟩ := bif_some h
                  cases hh
                  rw [Bool.and_eq_true] at hq
                  have ea : ars = #[x, y] := by rw [← Array.toArray_toList (xs := ars), hars]
                  have et : ats = #[t, t'] := by rw [← Array.toArray_toList (xs := ats), hats]
                  subst ea; subst et
                  exact ⟨hsh, sliceElem_spec he, hkn, hi, hz, Nat.eq_of_beq_eq_true hq.1, Nat.le_of_ble_eq_true hq.2⟩
                · cases h
              · cases h
            · cases h
          · cases h
        · cases h
      · cases h
    · cases h
  · cases h
def apzzAt (P : Program) (ops : Array Oper) (S : St) (i : Nat) : Option (Nat × Nat × Nat × Option Value × Option Value) := match apzAt P ops S i with
  | some (x, y, _, _, e, _, inf, _) => some (e, inf.size, inf.bytes, ev S x, ev S y)
  | none => none
theorem does_room (k' e z bt n : Nat) (n' : Int) (kd : IntKind) (h1 : apzzAt P ops S i = some (e, z, bt, some (.slice none 0 0), some (.int kd n'))) (hK : S.H k' = .fresh) (hn : n' = (n : Int)) (h0 : 1 ≤ n)
    (hB : n * bt ≤ 140737488355328) (hM : n ≤ 4611686018427387904) :
    Does C P ops i S ⟨[k'], .slice (some ⟨k', 0, none⟩) n 0, [(k', .live ⟨[], e, true, z⟩)]⟩ := by
  subst hn
  unfold apzzAt at h1
  split at h1
  · rename_i x y t t' e' kn inf zv hs
    simp only [Option.some.injEq, Prod.mk.injEq] at h1
    obtain ⟨rfl, rfl, rfl, hx, hy⟩ := h1
    obtain ⟨hsh, hu, htn, hi, hzv, hzs, hpos⟩ := apzAt_spec hs
    refine .of_run hsh fun o ho S' ρ a w hT hH' hr => ?_
    have hrx := ev_rel hr (by rw [hT x (by simp [Op.operands, Call.operands])]; exact hx)
    have hry := ev_rel hr (by rw [hT y (by simp [Op.operands, Call.operands])]; exact hy)
    generalize hax : a.eval x = ax at hrx
    generalize hay : a.eval y = ay at hry
    cases hrx with
    | nilSlice =>
      cases hry with
      | int =>
        have hrun := Lib.run_append_nil_zeros (P := P) w t t' o.type _ inf zv kd kn hu htn hi hzv n (by omega) hpos (by omega) (by omega)
        obtain ⟨hle, hrel⟩ := Rel.grown hr (by rw [hH' k' (by simp)]; exact hK) (us := []) (vs := []) rfl (fun j u hu => by simp at hu) (Builtin.zeroCells zv.cells n ++ Builtin.zeroCells zv.cells (grownCap w n 0 e' - n)) e' inf.size
        have hge := grownCap_ge w n 0 e'
        have ee : (#[] : Array Value) ++ (Builtin.zeroCells zv.cells n ++ Builtin.zeroCells zv.cells (grownCap w n 0 e' - n)) = Builtin.zeroCells zv.cells n ++ Builtin.zeroCells zv.cells (grownCap w n 0 e' - n) := Array.empty_append
        rw [show ([] : List Value).toArray = #[] from rfl, ee] at hrel hle
        refine ⟨_, _, _, .slice (some ⟨w.heap.size, 0, none⟩) n (grownCap w n 0 e'), ?_, .inl rfl, ?_, hrel⟩
        · have ev1 : (#[x, y] : Array Operand).map a.eval = #[.slice none 0 0, .int kd n] := by simp [hax, hay]
          simp only [execOp, ho, resolve, ev1, Sem.run_bind, Sem.run_pure, Result.andThen_ok, invoke, builtin, hrun]
        · refine .slice k' 0 n 0 (grownCap w n 0 e') _ (upd_self _ _ _) hge ?_
          simp only [Array.size_append, size_zeroCells, hzs, ← Nat.add_mul, Nat.zero_add]
          exact Nat.mul_le_mul_right _ (by omega)
  · cases h1
end
end Go.Proofs.YtndkhgfecnbmnaaGreat.Am
namespace Go.Proofs.YtndkhgfecnbmnaaGreat.Am
open Go
set_option linter.unusedVariables false
set_option linter.unusedSimpArgs false
section
variable {C : Ctx} {P : Program} {ops : Array Oper} {S : St} {i : Nat}
def slnAt (P : Program) (ops : Array Oper) (S : St) (i : Nat) : Option (Option Value × Option Value) := match shapeAt ops S i with
  | some (.binOp op t x y _, true) => match op with
    | .eql => match sliceElem P t with
      | some _ => some (ev S x, ev S y)
      | none => none
    | _ => none
  | _ => none
theorem does_sln {k off n c : Nat} (h1 : slnAt P ops S i = some (some (.slice (some ⟨k, off, none⟩) n c), some (.slice none 0 0))) (hn : 1 ≤ n) : Does C P ops i S ⟨[], .bool false, []⟩ := by
  unfold slnAt at h1
  split at h1
  · rename_i op t x y t2 hs
    split at h1
    · split at h1
      · rename_i e he
        simp only [Option.some.injEq, Prod.mk.injEq] at h1
        obtain ⟨hx, hy⟩ := h1
        have hu := sliceElem_spec he
        refine .of_run hs fun o ho S' ρ a w hT hH' hr => ?_
        have hrx := ev_rel hr (by rw [hT x (by simp [Op.operands])]; exact hx)
        have hry := ev_rel hr (by rw [hT y (by simp [Op.operands])]; exact hy)
        generalize hax : a.eval x = ax at hrx
        generalize hay : a.eval y = ay at hry
        cases hry with
        | nilSlice =>
          cases hrx with
          | slice0 => omega
          | slice _ _ _ _ cap sp hk hc1 hs1 =>
            refine ⟨_, w, ρ, .bool false, ?_, .inl rfl, .bool _, hr⟩
            have hg : (eqGuard .eql t x y (.slice (some ⟨sp.block, sp.off + off, none⟩) n cap) (.slice none 0 0)).run P w = .ok () w := by
              simp [eqGuard]
            have he : (Op.equal t (.slice (some ⟨sp.block, sp.off + off, none⟩) n cap) (.slice none 0 0)).run P w = .ok false w := by
              have key : ∀ d : Nat, (Op.equalIn (d + 1) t (.slice (some ⟨sp.block, sp.off + off, none⟩) n cap) (.slice none 0 0)).run P w = .ok false w := fun d => by simp [Op.equalIn, run_underlying hu]
              exact key 9999
            simp [execOp, ho, hax, hay, hg, binOp, he]
      · cases h1
    · cases h1
  · cases h1
end
end Go.Proofs.YtndkhgfecnbmnaaGreat.Am

namespace Go.Proofs.YtndkhgfecnbmnaaGreat.Am
open Go Go.Proofs
set_option maxRecDepth 100000
set_option maxHeartbeats 4000000
set_option linter.unusedVariables false
set_option linter.unusedSimpArgs false
abbrev pB (l : List (Int × Int)) : Blk := ⟨l.flatMap ptc, 28, true, 2⟩
abbrev sV (b n : Nat) : Value := .slice (some ⟨b, 0, none⟩) n 0
theorem rF {σ : Nat → Nat} {p : Nat → Prop} {v : Value} (h : flatB v = true := by kernel_rfl) : RenV σ p v v := .flatB h
theorem rS {σ : Nat → Nat} {p : Nat → Prop} {b o n c c' : Nat} (h : p b := by decide) : RenV σ p (.slice (some ⟨b, o, none⟩) n c) (.slice (some ⟨σ b, o, none⟩) n c') := .slice _ _ _ _ _ h
theorem rK {σ : Nat → Nat} {p : Nat → Prop} {b o n c c' : Nat} (h : p b) : RenV σ p (.slice (some ⟨b, o, none⟩) n c) (.slice (some ⟨σ b, o, none⟩) n c') := .slice _ _ _ _ _ h
theorem bP {σ : Nat → Nat} {p : Nat → Prop} {l : List (Int × Int)} : RenB σ p (pB l) (pB l) := ⟨rfl, rfl, rfl, .flats (flats_pair _)⟩
section
variable {C : Ctx} {P : Program} {ops : Array Oper} {i : Nat} {S : St} {g m : Nat} {args0 : List Value} {pre0 post0 : List (Nat × Blk)} {v0 : Value}
theorem cF (ars : Array Operand) (ats : Array TypeId) (vs : List Value) (r : Nat) (sl : List Nat) (pre post : List (Nat × Blk)) (v : Value) (ac : AC P g m args0 pre0 v0 post0) (ha : RenL (fun j => sl.getD j 0) (· < m) args0 vs)
    (hpre : RenH (fun j => sl.getD j 0) (· < m) pre0 pre) (hpost : RenH (fun j => sl.getD j 0) (· < m + r) post0 post) (hv : RenV (fun j => sl.getD j 0) (· < m + r) v0 v)
    (hs : shapeAt ops S i = some (.call ⟨.value (.func g), ars, ats⟩, true) := by kernel_rfl) (hf : ev S (.func g) = some (.func (.func g) #[] #[]) := by kernel_rfl) (hargs : evs S ars.toList = some vs := by kernel_rfl) (hg : callB P g = true := by kernel_rfl)
    (hpreS : pre.map (fun x => S.H x.1) = pre.map (fun x => .live x.2) := by kernel_rfl) (hk : callChk m r (pre0.map (·.1)) (post0.map (·.1)) sl (ownKeys pre) = true := by kernel_rfl)
    (hnew : (List.range' m r).map (fun j => S.H (sl.getD j 0)) = (List.range' m r).map (fun _ => .fresh) := by kernel_rfl) :
    Does C P ops i S ⟨pre.map (·.1) ++ (List.range' m r).map (fun j => sl.getD j 0), v, writesOf pre post⟩ :=
  does_callB (firsts := #[]) (caps := #[]) sl hs hf hargs hg ac (by simpa using ha) hpre hpreS hk hnew hpost hv
theorem cS (ars : Array Operand) (ats : Array TypeId) (vs : List Value) (sl : List Nat) (pre : List (Nat × Blk)) (v : Value) (ac : AC P g m args0 pre0 v0 pre0) (ha : RenL (fun j => sl.getD j 0) (· < m) args0 vs)
    (hpre : RenH (fun j => sl.getD j 0) (· < m) pre0 pre) (hv : RenV (fun j => sl.getD j 0) (· < m) v0 v)
    (hs : shapeAt ops S i = some (.call ⟨.value (.func g), ars, ats⟩, true) := by kernel_rfl) (hf : ev S (.func g) = some (.func (.func g) #[] #[]) := by kernel_rfl) (hargs : evs S ars.toList = some vs := by kernel_rfl) (hg : callB P g = true := by kernel_rfl)
    (hpreS : pre.map (fun x => S.H x.1) = pre.map (fun x => .live x.2) := by kernel_rfl) (hk : callChk m 0 (pre0.map (·.1)) (pre0.map (·.1)) sl (ownKeys pre) = true := by kernel_rfl) :
    Does C P ops i S ⟨pre.map (·.1) ++ (List.range' m 0).map (fun j => sl.getD j 0), v, writesOf pre pre⟩ :=
  does_callB (firsts := #[]) (caps := #[]) sl hs hf hargs hg ac (by simpa using ha) hpre hpreS hk rfl hpre hv
end
end Go.Proofs.YtndkhgfecnbmnaaGreat.Am
