import Derived.Test.YtomnkdlfmjdckaaM3
import Derived.Shelf.GgSortFunc.InsertionK
import Derived.Test.YtomnkdlfmjdckaaM2
set_option linter.unusedVariables false
set_option linter.unusedSimpArgs false
namespace Go.Proofs.Ytomnkdlfmjdckaa.Am.Sp
def crP (a b c : Int × Int) : Int := crs a.1 a.2 b.1 b.2 c.1 c.2
/-- b lies behind a in the order of points -/
def lxP (a b : Int × Int) : Prop := a.1 < b.1 ∨ (a.1 = b.1 ∧ a.2 < b.2)
theorem lxP.trans {a b c : Int × Int} (h : lxP a b) (k : lxP b c) : lxP a c := by unfold lxP at *; omega
theorem lxP.irr {a : Int × Int} (h : lxP a a) : False := by unfold lxP at h; omega
theorem lxP.tri (a b : Int × Int) : lxP a b ∨ a = b ∨ lxP b a := by
  unfold lxP
  rcases Int.lt_trichotomy a.1 b.1 with h | h | h
  · exact .inl (.inl h)
  · rcases Int.lt_trichotomy a.2 b.2 with k | k | k
    · exact .inl (.inr ⟨h, k⟩)
    · exact .inr (.inl (Prod.ext h k))
    · exact .inr (.inr (.inr ⟨h.symm, k⟩))
  · exact .inr (.inr (.inl h))
theorem mulnnH {a b : Int} (ha : 0 ≤ a) (hb : 0 ≤ b) : 0 ≤ a * b := Int.mul_nonneg ha hb
/-- three vectors: u and v ahead, w not; v and w to the left of u: w to the left of v -/
theorem lex3 {u1 u2 v1 v2 w1 w2 : Int} (hu : 0 < u1 ∨ (u1 = 0 ∧ 0 < u2)) (hv : 0 < v1 ∨ (v1 = 0 ∧ 0 ≤ v2)) (hw : w1 < 0 ∨ (w1 = 0 ∧ w2 ≤ 0)) (hY : 0 ≤ u1 * w2 - u2 * w1) (hZ : 0 ≤ u1 * v2 - u2 * v1) : 0 ≤ v1 * w2 - v2 * w1 := by
  apply Classical.byContradiction
  intro hX
  have e1 : u1 * (v1 * w2 - v2 * w1) = v1 * (u1 * w2 - u2 * w1) + (-w1) * (u1 * v2 - u2 * v1) := by grind
  have e2 : u2 * (v1 * w2 - v2 * w1) = v2 * (u1 * w2 - u2 * w1) + (-w2) * (u1 * v2 - u2 * v1) := by grind
  generalize v1 * w2 - v2 * w1 = X at *
  generalize u1 * w2 - u2 * w1 = Y at *
  generalize u1 * v2 - u2 * v1 = Z at *
  have n1 : 0 ≤ v1 * Y := mulnnH (by omega) hY
  have n2 : 0 ≤ (-w1) * Z := mulnnH (by omega) hZ
  rcases hu with hu | ⟨hu, hu2⟩
  · have : u1 * X < 0 := Int.mul_neg_of_pos_of_neg hu (by omega)
    omega
  · subst hu
    rw [Int.zero_mul] at e1
    have : u2 * X < 0 := Int.mul_neg_of_pos_of_neg hu2 (by omega)
    have z1 : v1 * Y = 0 := by omega
    have z2 : (-w1) * Z = 0 := by omega
    have m1 : 0 ≤ v2 * Y := by
      rcases Int.mul_eq_zero.1 z1 with q | q
      · exact mulnnH (by omega) hY
      · rw [q, Int.mul_zero]; exact Int.le_refl _
    have m2 : 0 ≤ (-w2) * Z := by
      rcases Int.mul_eq_zero.1 z2 with q | q
      · exact mulnnH (by omega) hZ
      · rw [q, Int.mul_zero]; exact Int.le_refl _
    omega
/-- three vectors ahead: left turns follow one another -/
theorem lex3s {u1 u2 v1 v2 w1 w2 : Int} (hu : 0 < u1 ∨ (u1 = 0 ∧ 0 < u2)) (hv : 0 < v1 ∨ (v1 = 0 ∧ 0 < v2)) (hw : 0 < w1 ∨ (w1 = 0 ∧ 0 < w2)) (hR : 0 < u1 * v2 - u2 * v1) (hQ : 0 < v1 * w2 - v2 * w1) : 0 < u1 * w2 - u2 * w1 := by
  apply Classical.byContradiction
  intro hX
  have e1 : v1 * (u1 * w2 - u2 * w1) = u1 * (v1 * w2 - v2 * w1) + w1 * (u1 * v2 - u2 * v1) := by grind
  have e2 : v2 * (u1 * w2 - u2 * w1) = u2 * (v1 * w2 - v2 * w1) + w2 * (u1 * v2 - u2 * v1) := by grind
  rcases hv with hv | ⟨hv, hv2⟩
  · generalize hXX : u1 * w2 - u2 * w1 = X at *
    generalize v1 * w2 - v2 * w1 = Q at *
    generalize u1 * v2 - u2 * v1 = R at *
    have n1 : 0 ≤ u1 * Q := mulnnH (by omega) (by omega)
    have n2 : 0 ≤ w1 * R := mulnnH (by omega) (by omega)
    have n3 : v1 * X ≤ 0 := Int.mul_nonpos_of_nonneg_of_nonpos (by omega) (by omega)
    have z1 : u1 * Q = 0 := by omega
    have z2 : w1 * R = 0 := by omega
    have a1 : u1 = 0 := (Int.mul_eq_zero.1 z1).resolve_right (by omega)
    have a2 : w1 = 0 := (Int.mul_eq_zero.1 z2).resolve_right (by omega)
    subst a1; subst a2
    have : X = 0 := by rw [← hXX]; simp
    subst this
    rw [Int.mul_zero] at e2
    have p1 : 0 < u2 * Q := Int.mul_pos (by omega) hQ
    have p2 : 0 < w2 * R := Int.mul_pos (by omega) hR
    omega
  · subst hv
    simp only [Int.zero_mul, Int.mul_zero, Int.sub_zero, Int.zero_sub] at *
    -- 0 < u1 * v2, 0 < -(v2 * w1)
    have : 0 < v2 * (-w1) := by rw [Int.mul_neg]; exact hQ
    have := Int.pos_of_mul_pos_right this hv2
    omega
theorem crP_vec (a b c : Int × Int) : crP a b c = (b.1 - a.1) * (c.2 - a.2) - (b.2 - a.2) * (c.1 - a.1) := by unfold crP crs; grind
theorem crP_rot (a b c : Int × Int) : crP a b c = crP b c a := by unfold crP crs; grind
theorem crP_self (a b : Int × Int) : crP a b b = 0 := by unfold crP crs; grind
theorem crP_aba (a b : Int × Int) : crP a b a = 0 := by unfold crP crs; grind
/-- a < b < c turn left, p ≤ b is left of ab: it is left of bc -/
theorem left_behind {a b c p : Int × Int} (hab : lxP a b) (hbc : lxP b c) (hp : lxP p b ∨ p = b) (ht : 0 ≤ crP a b c) (hl : 0 ≤ crP a b p) : 0 ≤ crP b c p := by
  have h := lex3 (u1 := b.1 - a.1) (u2 := b.2 - a.2) (v1 := c.1 - b.1) (v2 := c.2 - b.2) (w1 := p.1 - b.1) (w2 := p.2 - b.2) (by unfold lxP at hab; omega) (by unfold lxP at hbc; omega)
    (by rcases hp with q | q; unfold lxP at q; omega; subst q; omega) (by rw [crP_vec] at hl; grind) (by rw [crP_vec] at ht; grind)
  rw [crP_vec]; exact h
/-- a < b < c < d turn left twice: d is left of ab -/
theorem left_ahead {a b c d : Int × Int} (hab : lxP a b) (hbc : lxP b c) (hcd : lxP c d) (h1 : 0 < crP a b c) (h2 : 0 < crP b c d) : 0 < crP a b d := by
  have h := lex3s (u1 := b.1 - a.1) (u2 := b.2 - a.2) (v1 := c.1 - b.1) (v2 := c.2 - b.2) (w1 := d.1 - c.1) (w2 := d.2 - c.2) (by unfold lxP at hab; omega) (by unfold lxP at hbc; omega) (by unfold lxP at hcd; omega)
    (by rw [crP_vec] at h1; grind) (by rw [crP_vec] at h2; grind)
  rw [crP_vec] at *; grind
/-- b is taken out between a and q: p from a on, that was left of ab, and of bq if behind b, is left of aq -/
theorem left_pop {a b q p : Int × Int} (hab : lxP a b) (hbq : lxP b q) (hp : lxP a p ∨ p = a) (ht : crP a b q ≤ 0) (hl : 0 ≤ crP a b p) (hr : (lxP b p ∨ p = b) → 0 ≤ crP b q p) : 0 ≤ crP a q p := by
  by_cases c : lxP b p ∨ p = b
  · have k := hr c
    have e : crP a q p = crP a b p - crP a b q + crP b q p := by unfold crP crs; grind
    omega
  · -- a ≤ p < b
    have hz := lex3 (u1 := b.1 - a.1) (u2 := b.2 - a.2) (v1 := p.1 - a.1) (v2 := p.2 - a.2) (w1 := -(q.1 - b.1)) (w2 := -(q.2 - b.2)) (by unfold lxP at hab; omega) (by rcases hp with h | h; unfold lxP at h; omega; subst h; omega) (by unfold lxP at hbq; omega)
      (by rw [crP_vec] at ht; grind) (by rw [crP_vec] at hl; grind)
    have e : crP a q p = crP a b p + ((p.1 - a.1) * (-(q.2 - b.2)) - (p.2 - a.2) * (-(q.1 - b.1))) := by unfold crP crs; grind
    omega
end Go.Proofs.Ytomnkdlfmjdckaa.Am.Sp
set_option linter.unusedVariables false
set_option linter.unusedSimpArgs false
namespace Go.Proofs.Ytomnkdlfmjdckaa.Am.Sp
def popC (q : Int × Int) : List (Int × Int) → List (Int × Int)
  | b :: a :: r => if crP a b q ≤ 0 then popC q (a :: r) else b :: a :: r
  | [c] => [c]
  | [] => []
def chS : List (Int × Int) → List (Int × Int) → List (Int × Int)
  | acc, [] => acc
  | acc, q :: t => chS (q :: popC q acc) t
def Ds : List (Int × Int) → Prop
  | b :: a :: r => lxP a b ∧ Ds (a :: r)
  | _ => True
def Tr : List (Int × Int) → Prop
  | c :: b :: a :: r => 0 < crP a b c ∧ Tr (b :: a :: r)
  | _ => True
def Lf (S : List (Int × Int)) : List (Int × Int) → Prop
  | b :: a :: r => (∀ p ∈ S, 0 ≤ crP a b p) ∧ Lf S (a :: r)
  | _ => True
/-- the least of the chain is the least of all -/
def Bt (S : List (Int × Int)) (C : List (Int × Int)) : Prop := ∃ z, C.getLast? = some z ∧ ∀ p ∈ S, p = z ∨ lxP z p
def Tp (S : List (Int × Int)) (C : List (Int × Int)) : Prop := ∃ c r, C = c :: r ∧ ∀ p ∈ S, p = c ∨ lxP p c
structure Chn (S C : List (Int × Int)) : Prop where
  ds : Ds C
  tr : Tr C
  lf : Lf S C
  bt : Bt S C
  tp : Tp S C
  sub : ∀ p ∈ C, p ∈ S
theorem Ds.tail {b : Int × Int} {r : List (Int × Int)} (h : Ds (b :: r)) : Ds r := by
  cases r with
  | nil => trivial
  | cons a r => exact h.2
theorem Tr.tail {b : Int × Int} {r : List (Int × Int)} (h : Tr (b :: r)) : Tr r := by
  cases r with
  | nil => trivial
  | cons a r =>
    cases r with
    | nil => trivial
    | cons z r => exact h.2
theorem Lf.tail {S : List (Int × Int)} {b : Int × Int} {r : List (Int × Int)} (h : Lf S (b :: r)) : Lf S r := by
  cases r with
  | nil => trivial
  | cons a r => exact h.2
theorem Lf.mono {S S' : List (Int × Int)} (hs : ∀ p ∈ S', p ∈ S) : ∀ {C : List (Int × Int)}, Lf S C → Lf S' C
  | b :: a :: r, h => ⟨fun p hp => h.1 p (hs p hp), Lf.mono hs h.2⟩
  | [_], _ => trivial
  | [], _ => trivial
theorem Lf.append {S S' : List (Int × Int)} : ∀ {C : List (Int × Int)}, Lf S C → Lf S' C → Lf (S ++ S') C
  | b :: a :: r, h, k => ⟨fun p hp => (List.mem_append.1 hp).elim (h.1 p) (k.1 p), Lf.append h.2 k.2⟩
  | [_], _, _ => trivial
  | [], _, _ => trivial
theorem Bt.tail {S : List (Int × Int)} {b a : Int × Int} {r : List (Int × Int)} (h : Bt S (b :: a :: r)) : Bt S (a :: r) := by
  obtain ⟨z, h1, h2⟩ := h
  exact ⟨z, by rw [List.getLast?_cons_cons] at h1; exact h1, h2⟩
/-- what lies ahead of a chain that turns left toward it is left of all its edges -/
theorem lf_ahead {q : Int × Int} : ∀ {b a : Int × Int} {r : List (Int × Int)}, Ds (b :: a :: r) → Tr (b :: a :: r) → lxP b q → 0 < crP a b q → Lf [q] (b :: a :: r)
  | b, a, [], hd, ht, hb, h => ⟨fun p hp => by rw [List.mem_singleton.1 hp]; omega, trivial⟩
  | b, a, z :: r, hd, ht, hb, h => by
    refine ⟨fun p hp => by rw [List.mem_singleton.1 hp]; omega, ?_⟩
    exact lf_ahead hd.2 ht.2 (hd.1.trans hb) (left_ahead hd.2.1 hd.1 hb ht.1 h)
theorem pop_chn {S : List (Int × Int)} {q : Int × Int} (hq : ∀ p ∈ S, lxP p q) : ∀ {C : List (Int × Int)}, Ds C → Tr C → Lf S C → Bt S C → (∀ p ∈ C, p ∈ S) → (∀ c r, C = c :: r → ∀ p ∈ S, (lxP c p ∨ p = c) → 0 ≤ crP c q p) →
    Ds (q :: popC q C) ∧ Tr (q :: popC q C) ∧ Lf (S ++ [q]) (q :: popC q C) ∧ Bt (S ++ [q]) (q :: popC q C) ∧ (∀ p ∈ popC q C, p ∈ S)
  | [], hd, ht, hl, hb, hs, hr => by obtain ⟨z, h1, _⟩ := hb; simp at h1
  | [c], hd, ht, hl, hb, hs, hr => by
    have hc := hs c (by simp)
    obtain ⟨z, h1, h2⟩ := hb
    have hz : c = z := by simpa using h1
    subst hz
    refine ⟨⟨hq c hc, trivial⟩, trivial, ⟨fun p hp => ?_, trivial⟩, ⟨c, by simp [popC], fun p hp => ?_⟩, fun p hp => hs p hp⟩
    · rcases List.mem_append.1 hp with k | k
      · refine hr c [] rfl p k ?_
        rcases h2 p k with e | e
        · exact .inr e
        · exact .inl e
      · rw [List.mem_singleton.1 k, crP_self]; exact Int.le_refl _
    · rcases List.mem_append.1 hp with k | k
      · exact h2 p k
      · rw [List.mem_singleton.1 k]; exact .inr (hq c hc)
  | b :: a :: r, hd, ht, hl, hb, hs, hr => by
    have hbs := hs b (by simp)
    by_cases hp : crP a b q ≤ 0
    · rw [popC, if_pos hp]
      refine pop_chn hq hd.2 ht.tail hl.2 hb.tail (fun p h => hs p (List.mem_cons_of_mem _ h)) (fun c r' e p h1 h2 => ?_)
      rw [List.cons.injEq] at e
      obtain ⟨rfl, rfl⟩ := e
      exact left_pop hd.1 (hq b hbs) h2 hp (hl.1 p h1) (fun k => hr b _ rfl p h1 k)
    · rw [popC, if_neg hp]
      have h0 : 0 < crP a b q := by omega
      refine ⟨⟨hq b hbs, hd⟩, ⟨h0, ht⟩, ⟨fun p h => ?_, Lf.append hl (lf_ahead hd ht (hq b hbs) h0)⟩, ?_, hs⟩
      · rcases List.mem_append.1 h with k | k
        · rcases lxP.tri p b with c | c | c
          · exact left_behind hd.1 (hq b hbs) (.inl c) (by omega) (hl.1 p k)
          · exact hr b _ rfl p k (.inr c)
          · exact hr b _ rfl p k (.inl c)
        · rw [List.mem_singleton.1 k, crP_self]; exact Int.le_refl _
      · obtain ⟨z, h1, h2⟩ := hb
        refine ⟨z, by rw [List.getLast?_cons_cons]; exact h1, fun p h => ?_⟩
        rcases List.mem_append.1 h with k | k
        · exact h2 p k
        · have hzs : z ∈ S := hs z (List.mem_of_getLast? h1)
          rw [List.mem_singleton.1 k]; exact .inr (hq z hzs)
theorem Chn.step {S C : List (Int × Int)} {q : Int × Int} (h : Chn S C) (hq : ∀ p ∈ S, lxP p q) : Chn (S ++ [q]) (q :: popC q C) := by
  have k := pop_chn hq h.ds h.tr h.lf h.bt h.sub (fun c r e p h1 h2 => by
    obtain ⟨c', r', e', h3⟩ := h.tp
    rw [e'] at e
    obtain ⟨rfl, rfl⟩ := List.cons.inj e
    rcases h3 p h1 with k | k
    · rw [k, crP_aba]; exact Int.le_refl _
    · rcases h2 with g | g
      · exact (lxP.irr (g.trans k)).elim
      · rw [g, crP_aba]; exact Int.le_refl _)
  refine ⟨k.1, k.2.1, k.2.2.1, k.2.2.2.1, ⟨q, _, rfl, fun p hp => ?_⟩, fun p hp => ?_⟩
  · rcases List.mem_append.1 hp with g | g
    · exact .inr (hq p g)
    · exact .inl (List.mem_singleton.1 g)
  · rcases List.mem_cons.1 hp with g | g
    · subst g; simp
    · exact List.mem_append.2 (.inl (k.2.2.2.2 p g))
theorem chn_one (a : Int × Int) : Chn [a] [a] := ⟨trivial, trivial, trivial, ⟨a, rfl, fun p hp => .inl (List.mem_singleton.1 hp)⟩, ⟨a, [], rfl, fun p hp => .inl (List.mem_singleton.1 hp)⟩, fun p hp => hp⟩
theorem chS_chn : ∀ (t S C : List (Int × Int)), Chn S C → (S ++ t).Pairwise lxP → Chn (S ++ t) (chS C t)
  | [], S, C, h, _ => by rw [List.append_nil]; exact h
  | q :: t, S, C, h, hp => by
    have hq : ∀ p ∈ S, lxP p q := fun p k => (List.pairwise_append.1 hp).2.2 p k q (by simp)
    have := chS_chn t (S ++ [q]) _ (h.step hq) (by rw [List.append_assoc]; exact hp)
    rw [List.append_assoc] at this; exact this
/-- the chain of points in their order -/
theorem chn_of {a : Int × Int} {t : List (Int × Int)} (h : (a :: t).Pairwise lxP) : Chn (a :: t) (chS [] (a :: t)) := chS_chn t [a] [a] (chn_one a) h
/-- three on one line, b between: what turns toward c at b turns away from a -/
theorem between_turn {z b c a : Int × Int} (hbc : lxP b c) (hab : lxP a b) (h0 : crP a b c = 0) (ht : 0 < crP z b c) : crP z b a < 0 := by
  apply Classical.byContradiction
  intro hn
  have e1 : (c.1 - b.1) * crP z b a + (-(a.1 - b.1)) * crP z b c = (b.1 - z.1) * crP a b c := by unfold crP crs; grind
  have e2 : (c.2 - b.2) * crP z b a + (-(a.2 - b.2)) * crP z b c = (b.2 - z.2) * crP a b c := by unfold crP crs; grind
  rw [h0, Int.mul_zero] at e1 e2
  unfold lxP at *
  generalize crP z b a = X at *
  generalize crP z b c = Y at *
  have n1 : 0 ≤ (c.1 - b.1) * X := mulnnH (by omega) (by omega)
  have n2 : 0 ≤ -(a.1 - b.1) * Y := mulnnH (by omega) (by omega)
  have z2 : -(a.1 - b.1) * Y = 0 := by omega
  have a1 : -(a.1 - b.1) = 0 := (Int.mul_eq_zero.1 z2).resolve_right (by omega)
  have p2 : 0 < -(a.2 - b.2) * Y := Int.mul_pos (by omega) ht
  have z1 : (c.1 - b.1) * X = 0 := by omega
  have n3 : 0 ≤ (c.2 - b.2) * X := by
    rcases Int.mul_eq_zero.1 z1 with k | k
    · exact mulnnH (by omega) (by omega)
    · rw [k, Int.mul_zero]; exact Int.le_refl _
  omega
/-- there is one chain -/
theorem chn_next {S : List (Int × Int)} {b a a' : Int × Int} {r r' : List (Int × Int)} (hd : Ds (b :: a :: r)) (hd' : Ds (b :: a' :: r')) (ht' : Tr (b :: a' :: r')) (hl : Lf S (b :: a :: r)) (hl' : Lf S (b :: a' :: r')) (hb' : Bt S (b :: a' :: r')) (ha : a ∈ S) (ha' : a' ∈ S) : ¬ lxP a a' := by
  intro h
  have h1 := hl.1 a' ha'
  have h2 := hl'.1 a ha
  have e : crP a b a' = -crP a' b a := by unfold crP crs; grind
  have e0 : crP a a' b = 0 := by have : crP a a' b = crP a' b a := crP_rot _ _ _; omega
  cases r' with
  | nil =>
    obtain ⟨z, g1, g2⟩ := hb'
    have : a' = z := by simpa using g1
    subst this
    rcases g2 a ha with k | k
    · subst k; exact h.irr
    · exact (h.trans k).irr
  | cons z r' =>
    have := between_turn hd'.1 h e0 ht'.1
    have := hl'.2.1 a ha
    omega
theorem chn_uniq0 {S : List (Int × Int)} : ∀ {C C' : List (Int × Int)} {b : Int × Int}, Ds (b :: C) → Tr (b :: C) → Lf S (b :: C) → Bt S (b :: C) → (∀ p ∈ b :: C, p ∈ S) → Ds (b :: C') → Tr (b :: C') → Lf S (b :: C') → Bt S (b :: C') → (∀ p ∈ b :: C', p ∈ S) → C = C'
  | [], [], b, _, _, _, _, _, _, _, _, _, _ => rfl
  | [], a' :: r', b, hd, ht, hl, hb, hs, hd', ht', hl', hb', hs' => by
    obtain ⟨z, g1, g2⟩ := hb
    have : b = z := by simpa using g1
    subst this
    rcases g2 a' (hs' a' (by simp)) with k | k
    · subst k; exact (hd'.1.irr).elim
    · exact ((hd'.1.trans k).irr).elim
  | a :: r, [], b, hd, ht, hl, hb, hs, hd', ht', hl', hb', hs' => by
    obtain ⟨z, g1, g2⟩ := hb'
    have : b = z := by simpa using g1
    subst this
    rcases g2 a (hs a (by simp)) with k | k
    · subst k; exact (hd.1.irr).elim
    · exact ((hd.1.trans k).irr).elim
  | a :: r, a' :: r', b, hd, ht, hl, hb, hs, hd', ht', hl', hb', hs' => by
    have n1 := chn_next hd hd' ht' hl hl' hb' (hs a (by simp)) (hs' a' (by simp))
    have n2 := chn_next hd' hd ht hl' hl hb (hs' a' (by simp)) (hs a (by simp))
    rcases lxP.tri a a' with k | k | k
    · exact (n1 k).elim
    · subst k
      rw [chn_uniq0 hd.2 ht.tail hl.2 hb.tail (fun p hp => hs p (List.mem_cons_of_mem _ hp)) hd'.2 ht'.tail hl'.2 hb'.tail (fun p hp => hs' p (List.mem_cons_of_mem _ hp))]
    · exact (n2 k).elim
theorem Chn.uniq {S C C' : List (Int × Int)} (h : Chn S C) (h' : Chn S C') : C = C' := by
  obtain ⟨c, r, rfl, g⟩ := h.tp
  obtain ⟨c', r', rfl, g'⟩ := h'.tp
  have hc : c = c' := by
    rcases g' c (h.sub c (by simp)) with k | k
    · exact k
    · rcases g c' (h'.sub c' (by simp)) with q | q
      · exact q.symm
      · exact (k.trans q).irr.elim
  subst hc
  rw [chn_uniq0 h.ds h.tr h.lf h.bt h.sub h'.ds h'.tr h'.lf h'.bt h'.sub]
/-- a chain of all is one of its own points, and of whatever lies between -/
theorem Chn.less {S S' C : List (Int × Int)} (h : Chn S C) (h1 : ∀ p ∈ S', p ∈ S) (h2 : ∀ p ∈ C, p ∈ S') : Chn S' C := by
  refine ⟨h.ds, h.tr, h.lf.mono h1, ?_, ?_, h2⟩
  · obtain ⟨z, a, b⟩ := h.bt; exact ⟨z, a, fun p hp => b p (h1 p hp)⟩
  · obtain ⟨c, r, a, b⟩ := h.tp; exact ⟨c, r, a, fun p hp => b p (h1 p hp)⟩
end Go.Proofs.Ytomnkdlfmjdckaa.Am.Sp

set_option linter.unusedVariables false
set_option linter.unusedSimpArgs false
namespace Go.Proofs.Ytomnkdlfmjdckaa.Am
open Go Go.Sort Go.Proofs
def leB (a b : Int × Int) : Bool := decide (a.1 < b.1) || (decide (a.1 = b.1) && decide (a.2 ≤ b.2))
theorem leB_iff (a b : Int × Int) : leB a b = true ↔ ¬ Sp.lxP b a := by unfold leB Sp.lxP; simp only [Bool.or_eq_true, Bool.and_eq_true, decide_eq_true_eq]; omega
theorem leB_trans (a b c : Int × Int) (h : leB a b = true) (k : leB b c = true) : leB a c = true := by unfold leB at *; simp only [Bool.or_eq_true, Bool.and_eq_true, decide_eq_true_eq] at *; omega
theorem leB_total (a b : Int × Int) : (leB a b || leB b a) = true := by unfold leB; simp only [Bool.or_eq_true, Bool.and_eq_true, decide_eq_true_eq]; omega
theorem leB_anti {a b : Int × Int} (h : leB a b = true) (k : leB b a = true) : a = b := by
  unfold leB at *; simp only [Bool.or_eq_true, Bool.and_eq_true, decide_eq_true_eq] at *
  exact Prod.ext (by omega) (by omega)
/-- the points in their order -/
def srtP (ps : List (Int × Int)) : List (Int × Int) := ps.mergeSort leB
theorem srtP_perm (ps) : (srtP ps).Perm ps := List.mergeSort_perm ps leB
theorem srtP_len (ps) : (srtP ps).length = ps.length := (srtP_perm ps).length_eq
theorem srtP_sorted (ps) : (srtP ps).Pairwise (fun a b => leB a b = true) := List.pairwise_mergeSort leB_trans leB_total ps
theorem sorted_uniq : ∀ {l l' : List (Int × Int)}, l.Perm l' → l.Pairwise (fun a b => leB a b = true) → l'.Pairwise (fun a b => leB a b = true) → l = l'
  | [], l', h, _, _ => (h.symm.eq_nil).symm
  | a :: r, l', h, p, p' => by
    cases l' with
    | nil => exact absurd h.eq_nil (by simp)
    | cons b r' =>
      have hp := List.pairwise_cons.1 p
      have hp' := List.pairwise_cons.1 p'
      have hab : a = b := by
        have ma : a ∈ b :: r' := h.mem_iff.1 (by simp)
        have mb : b ∈ a :: r := h.mem_iff.2 (by simp)
        rcases List.mem_cons.1 ma with k | k
        · exact k
        · rcases List.mem_cons.1 mb with q | q
          · exact q.symm
          · exact leB_anti (hp.1 b q) (hp'.1 a k)
      subst hab
      rw [sorted_uniq (List.Perm.cons_inv h) hp.2 hp'.2]
theorem pair_get : ∀ (ps : List (Int × Int)) (t : Nat), t < ps.length * 2 → (ps.flatMap ptc)[t]? = some ((ptc (ps.toArray[t / 2]!))[t % 2]!)
  | [], t, h => by simp at h
  | p :: r, 0, h => by simp [ptc]
  | p :: r, 1, h => by simp [ptc]
  | p :: r, t + 2, h => by
    have ih := pair_get r t (by simp at h; omega)
    rw [List.flatMap_cons]
    have e1 : (t + 2) / 2 = t / 2 + 1 := by omega
    have e2 : (t + 2) % 2 = t % 2 := by omega
    rw [e1, e2]
    have : (ptc p ++ r.flatMap ptc)[t + 2]? = (r.flatMap ptc)[t]? := by simp [ptc]
    rw [this, ih]
    simp
theorem flatK_get (ps : List (Int × Int)) (t : Nat) (h : t < ps.length * 2) : (ps.flatMap ptc)[t]? = some ((flatK ptc 2 ps.toArray)[t]!) := by
  rw [get_flatK ptc 2 ps.toArray t (by simpa using h)]; exact pair_get ps t h
theorem pairs_len (ps : List (Int × Int)) : (ps.flatMap ptc).length = ps.length * 2 := by rw [pairs_length]; omega
theorem flat_at {ps : List (Int × Int)} {i : Nat} {u : Value} (h : (ps.flatMap ptc)[i]? = some u) : i < ps.length * 2 ∧ u = (flatK ptc 2 ps.toArray)[i]! ∧ flatB u = true := by
  obtain ⟨hi, e⟩ := List.getElem?_eq_some_iff.1 h
  rw [pairs_len] at hi
  refine ⟨hi, ?_, ?_⟩
  · rw [flatK_get ps i hi] at h; exact (Option.some.inj h).symm
  · have : u ∈ ps.flatMap ptc := List.mem_of_getElem? h
    obtain ⟨p, _, hp⟩ := List.mem_flatMap.1 this
    simp only [ptc, List.mem_cons, List.not_mem_nil, or_false] at hp
    rcases hp with rfl | rfl <;> rfl
/-- what the sort's contract says of points -/
def SortsP (P : Program) (fid g : Nat) (lt : Int × Int → Int × Int → Bool) : Prop := ∀ (blk off cap : Nat) (d : Array (Int × Int)) (w : World), HoldsK ptc 2 w blk off d → blk < w.heap.size → d.size < 4611686018427387904 →
  Calls P fid #[.slice (some ⟨blk, off, none⟩) d.size cap, .func (.func g) #[] #[]] w fun e w' => e = .returned (.tuple #[]) ∧ ∃ d' n os, PermIn 0 d.size d d' ∧ SortedIn lt 0 d.size d' ∧ w' = sortWorldK ptc 2 w blk off n d' os
theorem sorted_list {lt : Int × Int → Int × Int → Bool} (hlt : ∀ a b, lt a b = !leB b a) {ps : List (Int × Int)} {d' : Array (Int × Int)} (hp : PermIn 0 ps.toArray.size ps.toArray d') (hs : SortedIn lt 0 ps.toArray.size d') : d'.toList = srtP ps := by
  obtain ⟨h1, _, h2⟩ := hp
  have e1 : d'.extract 0 ps.toArray.size = d' := by rw [← h1]; simp
  have e2 : (ps.toArray).extract 0 ps.toArray.size = ps.toArray := by simp
  rw [e1, e2] at h2
  refine sorted_uniq (h2.trans (srtP_perm ps).symm) ?_ (srtP_sorted ps)
  rw [List.pairwise_iff_getElem]
  intro i j hi hj hij
  have hi' : i < d'.size := by simpa using hi
  have hj' : j < d'.size := by simpa using hj
  have := hs i j (Nat.zero_le _) hij (by rw [← h1]; exact hj')
  rw [hlt] at this
  rw [getElem!_pos d' j hj', getElem!_pos d' i hi'] at this
  simpa using this
theorem ac_sort {P : Program} {fid g : Nat} {elem : TypeId} {lt : Int × Int → Int × Int → Bool} (hlt : ∀ a b, lt a b = !leB b a) (hc : SortsP P fid g lt) (ps : List (Int × Int)) (h1 : 0 < ps.length) (hz : ps.length < 4611686018427387904) :
    AC P fid 1 [.slice (some ⟨0, 0, none⟩) ps.length 0, .func (.func g) #[] #[]] [(0, ⟨ps.flatMap ptc, elem, true, 2⟩)] (.tuple #[]) [(0, ⟨(srtP ps).flatMap ptc, elem, true, 2⟩)] := by
  intro ρ w args' hl ha hp hlow hhigh
  obtain ⟨a0, g0, r0⟩ := ha 0 _ rfl
  obtain ⟨a1, g1, r1⟩ := ha 1 _ rfl
  obtain ⟨x, xs, rfl⟩ : ∃ x y, args' = #[x, y] := by
    have : args'.size = 2 := by rw [← hl]; rfl
    exact ⟨args'[0], args'[1], by apply Array.ext (by simpa using this); intro i h1 h2; match i, h2 with | 0, _ => rfl | 1, _ => rfl⟩
  simp only [List.getElem?_toArray, List.getElem?_cons_zero, Option.some.injEq, List.getElem?_cons_succ] at g0 g1
  subst g0; subst g1
  have r1' : xs = .func (.func g) #[] #[] := by
    cases r1 with
    | func _ _ ys _ ds e1 v1 e2 v2 =>
      have : ys = #[] := by apply Array.ext (by simpa using e1.symm) ; intro i h1 h2; simp at h2
      have : ds = #[] := by apply Array.ext (by simpa using e2.symm) ; intro i h1 h2; simp at h2
      subst_vars; rfl
  subst r1'
  have N0 : ∃ N, ps.length = N := ⟨_, rfl⟩
  obtain ⟨N, hN⟩ := N0
  rw [hN] at r0
  obtain ⟨sp, e0, bok⟩ := hp.live 0 ⟨ps.flatMap ptc, elem, true, 2⟩ (List.mem_singleton.2 rfl)
  rw [BlkOk.own (b := ⟨ps.flatMap ptc, elem, true, 2⟩) rfl] at bok
  obtain ⟨hst, c, hc1, hc2, hc3, hc4⟩ := bok
  have key : ∃ off cap, x = .slice (some ⟨sp.block, off, none⟩) ps.length cap ∧ off = sp.off := by
    cases r0 with
    | slice _ _ _ _ cap sp' h hc hs =>
      rw [e0, Option.some.injEq] at h
      subst h
      exact ⟨sp.off + 0, cap, by rw [hN], rfl⟩
    | slice0 => omega
  obtain ⟨off, cap, rfl, rfl⟩ := key
  have hblk : sp.block < w.heap.size := (Array.getElem?_eq_some_iff.1 hc1).1
  simp only [pairs_len] at hc3
  have hF : (flatK ptc 2 ps.toArray).size = ps.length * 2 := by simp
  have hH : HoldsK ptc 2 w sp.block sp.off ps.toArray := by
    intro j hj
    rw [hF] at hj
    have hu := flatK_get ps j hj
    obtain ⟨v, a, r⟩ := hc4 j _ hu
    have hv := r.eq_of_only (only_flat (flat_at hu).2.2)
    subst hv
    refine ⟨?_, ?_⟩
    · unfold World.cell?; rw [hc1]; exact a
    · unfold World.frozen?; rw [hc1]; simp
  have hcall := hc sp.block sp.off cap ps.toArray w hH hblk (by simpa using hz)
  refine Calls.mono hcall ?_
  rintro e w' ⟨he, d', n, os, hperm, hsort, rfl⟩
  have hd' := sorted_list hlt hperm hsort
  have hsz : d'.size = ps.length := by rw [← Array.length_toList, hd', srtP_len]
  have harr : (srtP ps).toArray = d' := by rw [← hd']
  have heap' : ∀ b, b < w.heap.size → (sortWorldK ptc 2 w sp.block sp.off n d' os).heap[b]? = if sp.block = b then (w.heap[b]?).map (onCells (putCells id sp.off (flatK ptc 2 d'))) else w.heap[b]? := by
    intro b hb
    show ((w.heap.modify sp.block (onCells (putCells id sp.off (flatK ptc 2 d')))) ++ os)[b]? = _
    rw [Array.getElem?_append_left (by simpa using hb), Array.getElem?_modify]
  refine ⟨.tuple #[], ρ, he, rel_flat rfl, fun _ _ => rfl, ⟨fun k b hk => ?_, fun k k' b b' sp1 sp2 hne h1 h2 => ?_⟩, fun k b sp1 hk hm => ?_, ⟨rfl, rfl, rfl, ?_, fun b hb hno => ?_⟩⟩
  · simp only [List.mem_singleton, Prod.mk.injEq] at hk
    obtain ⟨rfl, rfl⟩ := hk
    refine ⟨sp, e0, ?_⟩
    rw [BlkOk.own (b := ⟨(srtP ps).flatMap ptc, elem, true, 2⟩) rfl]
    refine ⟨hst, putCells id sp.off (flatK ptc 2 d') c, ?_, ?_, ?_, fun i u hu => ?_⟩
    · rw [heap' _ hblk, if_pos rfl, hc1]; rfl
    · rw [hc2]; unfold putCells; simp
    · simp only [pairs_len, srtP_len]; exact hc3
    · obtain ⟨g1, g2, g3⟩ := flat_at hu
      rw [srtP_len] at g1
      refine ⟨u, ?_, rel_flat g3⟩
      unfold putCells
      rw [Array.getElem?_mapIdx]
      have : sp.off + i < c.size := by omega
      rw [Array.getElem?_eq_getElem this]
      simp only [Option.map_some, Option.some.injEq]
      rw [if_pos (by rw [size_flatK, hsz]; omega), g2, harr, Nat.add_sub_cancel_left]; rfl
  · simp only [List.mem_singleton, Prod.mk.injEq] at h1 h2
    omega
  · simp only [List.mem_singleton, Prod.mk.injEq] at hm
    omega
  · show w.heap.size ≤ ((w.heap.modify sp.block _) ++ os).size
    simp
  · rw [heap' b hb, if_neg (fun q => hno ⟨0, ⟨ps.flatMap ptc, elem, true, 2⟩, sp, List.mem_singleton.2 rfl, rfl, e0, q⟩)]
end Go.Proofs.Ytomnkdlfmjdckaa.Am
set_option linter.unusedVariables false
set_option linter.unusedSimpArgs false
namespace Go.Proofs.Ytomnkdlfmjdckaa.Am
open Go
theorem aw_shrink {C : Ctx} {P : Program} {Q : Exit → St → Prop} {c : Code} {S : St} (k : Nat) (b : Blk) (l : List Value) (m : Nat) (h : AW C P c ⟨S.T, wr [(k, .live ⟨l, b.elem, true, b.step⟩)] S.H⟩ Q)
    (hl : l = b.cells.take m) (ho : b.own = true := by kernel_rfl) (hk : S.H k = .live b := by kernel_rfl) : AW C P c S Q := by
  intro ρ a w hr
  obtain ⟨sp, e0, bok⟩ := hr.heap.live k b hk
  have hb := bok
  rw [BlkOk.own ho] at hb
  obtain ⟨h1, cc, hc1, hc2, hc3, hc4⟩ := hb
  refine h ρ a w (Rel.write hr hk ho e0 (cells := l) ?_ hc1 hc2 (fun j u hu => ?_) rfl rfl rfl rfl (fun _ _ => rfl))
  · rw [hl, List.length_take]; omega
  · rw [hl, List.getElem?_take] at hu
    split at hu
    · exact hc4 j u hu
    · cases hu
theorem al_shrink {C : Ctx} {P : Program} {Q : Exit → St → Prop} {c : Code} {S : St} (k : Nat) (b : Blk) (l : List Value) (m : Nat) (h : AL C P c ⟨S.T, wr [(k, .live ⟨l, b.elem, true, b.step⟩)] S.H⟩ Q)
    (hl : l = b.cells.take m) (ho : b.own = true := by kernel_rfl) (hk : S.H k = .live b := by kernel_rfl) : AL C P c S Q := by
  intro ρ a w hr
  obtain ⟨sp, e0, bok⟩ := hr.heap.live k b hk
  have hb := bok
  rw [BlkOk.own ho] at hb
  obtain ⟨h1, cc, hc1, hc2, hc3, hc4⟩ := hb
  refine h ρ a w (Rel.write hr hk ho e0 (cells := l) ?_ hc1 hc2 (fun j u hu => ?_) rfl rfl rfl rfl (fun _ _ => rfl))
  · rw [hl, List.length_take]; omega
  · rw [hl, List.getElem?_take] at hu
    split at hu
    · exact hc4 j u hu
    · cases hu
theorem take_pairs {ps : List (Int × Int)} {off k : Nat} (ho : off = 2 * k) : (ps.take k).flatMap ptc = (ps.flatMap ptc).take off := by
  have := cut_pairs (ps := ps) (off := 0) (j := 0) (m := off) (k := k) (by omega) ho
  rw [List.drop_zero, List.drop_zero] at this; exact this.symm
section
variable {C : Ctx} {P : Program} {ops : Array Oper} {S : St} {i : Nat}
def clearAt (P : Program) (ops : Array Oper) (S : St) (i : Nat) : Option (Nat × Nat × Nat × TypeId × Nat × Value) := match shapeAt ops S i with
  | some (.call c, true) => match c.callee with
    | .builtin b => match b with
      | .clear => match c.args.toList, c.argTypes.toList with
        | [x], [t] => match ev S x with
          | some (.slice (some ⟨k, off, none⟩) n _) => match sliceElem P t with
            | some e => match P.info? e with
              | some inf => match inf.zero with
                | some z => some (k, off, n, e, inf.size, z)
                | none => none
              | none => none
            | none => none
          | _ => none
        | _, _ => none
      | _ => none
    | _ => none
  | _ => none
/-- clear of a row from a place on: its beginning is told on -/
theorem does_clear {k off n e z : Nat} {b : Blk} {zv : Value} (l : List Value) (hs : clearAt P ops S i = some (k, off, n, e, z, zv)) (hH : S.H k = .live b) (ho : b.own = true) (hf : zv.cells.toList.all (fun u => flatB u && plainB u) = true) (hz : zv.cells.size = z)
    (hn : 1 ≤ n) (hl : l = b.cells.take off) (hle : off + n * z ≤ b.cells.length) :
    Does C P ops i S ⟨[k], .tuple #[], [(k, .live ⟨l, b.elem, true, b.step⟩)]⟩ := by
  unfold clearAt at hs
  split at hs
  · rename_i c hsh
    obtain ⟨cal, ars, ats⟩ := c
    simp only at hs
    split at hs
    · split at hs
      · split at hs
        · rename_i x t hars hats
          split at hs
          · rename_i k' off' n' c' hx
            split at hs
            · rename_i e' he
              split at hs
              · rename_i inf hi
                split at hs
                · rename_i z' hzz
                  simp only [Option.some.injEq, Prod.mk.injEq] at hs
                  obtain ⟨rfl, rfl, rfl, rfl, rfl, rfl⟩ := hs
                  have ea : ars = #[x] := by rw [← Array.toArray_toList (xs := ars), hars]
                  subst ea
                  have et : ats[0]? = some t := by rw [← Array.getElem?_toList, hats]; rfl
                  refine .of_run hsh fun o hop S' ρ a w hT hH' hr => ?_
                  have hu : P.underlying t = some (.slice e') := sliceElem_spec he
                  have hrx := ev_rel hr (by rw [hT x (by simp [Op.operands, Call.operands])]; exact hx)
                  generalize hax : a.eval x = ax at hrx
                  cases hrx with
                  | slice0 => omega
                  | slice _ _ _ _ cap sp hk hc1 hs1 =>
                    have hHk : S'.H k' = .live b := by rw [hH' k' (by simp)]; exact hH
                    obtain ⟨q1, e1, e2⟩ := hr.heap.live k' b hHk
                    rw [hk] at e1; cases e1
                    have hb2 := e2
                    rw [BlkOk.own ho] at hb2
                    obtain ⟨_, cc, hg, hcs, hcl, hcc⟩ := hb2
                    have hzs : (Builtin.zeroCells z'.cells n').toList.length = n' * inf.size := by unfold Builtin.zeroCells; simp [hz]
                    have hzf : ∀ u ∈ (Builtin.zeroCells z'.cells n').toList, flatB u = true ∧ plainB u = true := by
                      intro u hu
                      unfold Builtin.zeroCells at hu
                      rw [Array.toList_map, List.mem_map] at hu
                      obtain ⟨j, hj, rfl⟩ := hu
                      have hj' : j < n' * z'.cells.size := by simpa using hj
                      have hlt : j % z'.cells.size < z'.cells.size := Nat.mod_lt _ (by rcases Nat.eq_zero_or_pos z'.cells.size with q | q; rw [q] at hj'; simp at hj'; exact q)
                      rw [getElem!_pos z'.cells (j % z'.cells.size) hlt]
                      have := List.all_eq_true.1 hf (z'.cells[j % z'.cells.size]) (by simp)
                      rwa [Bool.and_eq_true] at this
                    have hget := setL_get (Builtin.zeroCells z'.cells n').toList b.cells off' (by rw [hzs]; exact hle)
                    obtain ⟨w', c', r1, r2, r3, r4, r5, r6, r7, r8, r9⟩ := run_storeCells (P := P) (ρ := ρ) (blk := sp.block) (o := sp.off) (e := b.elem) (fin := setL b.cells off' (Builtin.zeroCells z'.cells n').toList) (Builtin.zeroCells z'.cells n').toList (Builtin.zeroCells z'.cells n').toList w cc off' 0 hg
                      (by rw [hzs]; omega) rfl (fun u hu => (hzf u hu).2) (fun j u hu => ⟨u, hu, .of_only (only_flat (hzf u (List.mem_of_getElem? hu)).1)⟩)
                      (fun j u hu => by
                        obtain ⟨hj, _⟩ := List.getElem?_eq_some_iff.1 hu
                        rw [hget, if_pos (by omega), show off' + 0 + j - off' = j by omega]; exact hu)
                      (fun j u hj hu => by
                        rw [hget, if_neg (by omega)] at hu
                        exact hcc j u hu)
                    refine ⟨_, w', ρ, .tuple #[], ?_, .inl rfl, .of_only (only_flat rfl), Rel.write hr hHk ho hk (cells := l) (by rw [hl, List.length_take]; omega) r2 (by rw [r3]; exact hcs) (fun j u hu => ?_) r5 r6 r7 r8 r9⟩
                    · have ev1 : (#[x] : Array Operand).map a.eval = #[.slice (some ⟨sp.block, sp.off + off', none⟩) n' cap] := by simp [hax]
                      obtain ⟨m, rfl⟩ : ∃ m, n' = m + 1 := ⟨n' - 1, by omega⟩
                      have hzr := run_zero (P := P) (w := w) hi hzz
                      simp only [execOp, hop, resolve, ev1, Sem.run_bind, Sem.run_pure, Result.andThen_ok, invoke, builtin, Builtin.clear_, et, List.getElem?_toArray, List.getElem?_cons_zero, run_underlying hu, hzr, r1]
                    · rw [hl, List.getElem?_take] at hu
                      split at hu
                      · refine r4 j u ?_
                        rw [hget, if_neg (by omega)]; exact hu
                      · cases hu
                · cases hs
              · cases hs
            · cases hs
          · cases hs
        · cases hs
      · cases hs
    · cases hs
  · cases hs
end
end Go.Proofs.Ytomnkdlfmjdckaa.Am
set_option linter.unusedVariables false
set_option linter.unusedSimpArgs false
namespace Go.Proofs.Ytomnkdlfmjdckaa.Am
open Go Go.Sort Go.Proofs
section
variable {C : Ctx} {P : Program} {ops : Array Oper} {S : St} {i : Nat}
end
end Go.Proofs.Ytomnkdlfmjdckaa.Am

set_option linter.unusedVariables false
set_option linter.unusedSimpArgs false
namespace Go.Proofs.Ytomnkdlfmjdckaa.Am.Sp
open Go
def nop : List (Int × Int) := []
/-- without what is the same as the one ahead -/
def ddp : List (Int × Int) → List (Int × Int)
  | a :: b :: r => if a = b then ddp (b :: r) else a :: ddp (b :: r)
  | [a] => [a]
  | [] => []
theorem ddp_cons_head : ∀ (a : Int × Int) (r : List (Int × Int)), ∃ t, ddp (a :: r) = a :: t
  | a, [] => ⟨[], rfl⟩
  | a, b :: r => by
    rw [ddp]
    split
    · rename_i h; subst h; exact ddp_cons_head a r
    · exact ⟨_, rfl⟩
theorem ddp_snoc_eq : ∀ (l : List (Int × Int)) (x : Int × Int), l.getLast? = some x → ddp (l ++ [x]) = ddp l
  | [], x, h => by simp at h
  | [a], x, h => by
    have : a = x := by simpa using h
    subst this; simp [ddp]
  | a :: b :: r, x, h => by
    have ih := ddp_snoc_eq (b :: r) x (by rw [List.getLast?_cons_cons] at h; exact h)
    rw [List.cons_append] at ih
    rw [List.cons_append, List.cons_append, ddp, ddp, ih]
theorem ddp_snoc_ne : ∀ (l : List (Int × Int)) (x : Int × Int), l.getLast? ≠ some x → ddp (l ++ [x]) = ddp l ++ [x]
  | [], x, h => rfl
  | [a], x, h => by
    have : a ≠ x := by simpa using h
    simp [ddp, this]
  | a :: b :: r, x, h => by
    have ih := ddp_snoc_ne (b :: r) x (by rw [List.getLast?_cons_cons] at h; exact h)
    rw [List.cons_append] at ih
    rw [List.cons_append, List.cons_append, ddp, ddp, ih]
    split <;> simp
theorem getLast_take {l : List (Int × Int)} {j : Nat} (h1 : 1 ≤ j) (h : j ≤ l.length) : (l.take j).getLast? = some (l.getD (j - 1) (0, 0)) := by
  rw [List.getLast?_eq_getElem?, List.length_take, Nat.min_eq_left h, List.getElem?_take, if_pos (by omega), List.getElem?_eq_getElem (by omega), getD_lt (by omega)]
theorem take_one_more {l : List (Int × Int)} {j : Nat} (h : j < l.length) : l.take (j + 1) = l.take j ++ [l.getD j (0, 0)] := by
  rw [List.take_succ_eq_append_getElem h, getD_lt h]
theorem ddp_next_eq {l : List (Int × Int)} {j : Nat} (h1 : 1 ≤ j) (h : j < l.length) (e : l.getD j (0, 0) = l.getD (j - 1) (0, 0)) : ddp (l.take (j + 1)) = ddp (l.take j) := by
  rw [take_one_more h]; exact ddp_snoc_eq _ _ (by rw [getLast_take h1 (by omega), e])
theorem ddp_next_ne {l : List (Int × Int)} {j : Nat} (h1 : 1 ≤ j) (h : j < l.length) (e : l.getD j (0, 0) ≠ l.getD (j - 1) (0, 0)) : ddp (l.take (j + 1)) = ddp (l.take j) ++ [l.getD j (0, 0)] := by
  rw [take_one_more h]; exact ddp_snoc_ne _ _ (by rw [getLast_take h1 (by omega)]; simp only [ne_eq, Option.some.injEq]; exact fun q => e q.symm)
/-- the two points are the same, as the code asks it -/
theorem eqb_iff (a b : Int × Int) : ((a.1 == b.1) && ((a.2 == b.2) && true)) = true ↔ a = b := by
  simp [Prod.ext_iff]
theorem eqb_ne {a b : Int × Int} (h : ((a.1 == b.1) && ((a.2 == b.2) && true)) = false) : a ≠ b := fun q => by rw [(eqb_iff a b).2 q] at h; cases h
/-- Compact: the first loop has found nothing yet -/
theorem cmp_go {l : List (Int × Int)} {k : Nat} (h1 : 1 ≤ k) (h : k < l.length) (hi : ddp (l.take k) = l.take k) (e : l.getD k (0, 0) ≠ l.getD (k - 1) (0, 0)) : ddp (l.take (k + 1)) = l.take (k + 1) := by
  rw [ddp_next_ne h1 h e, hi, ← take_one_more h]
theorem cmp_one (l : List (Int × Int)) : ddp (l.take 1) = l.take 1 := by cases l <;> rfl
theorem cmp_short {l : List (Int × Int)} (h : l.length < 2) : ddp l = l := by
  match l, h with
  | [], _ => rfl
  | [a], _ => rfl
/-- Compact: the second loop: what is kept lies in front, what is to come lies where it lay -/
structure Cpt (l cur : List (Int × Int)) (k j : Nat) : Prop where
  len : cur.length = l.length
  front : cur.take k = ddp (l.take j)
  rest : ∀ i, j ≤ i + 1 → cur.getD i (0, 0) = l.getD i (0, 0)
  lt : k < j
  le : 1 ≤ k
theorem cpt_start {l : List (Int × Int)} {k : Nat} (h1 : 1 ≤ k) (h : k < l.length) (hi : ddp (l.take k) = l.take k) (e : l.getD k (0, 0) = l.getD (k - 1) (0, 0)) : Cpt l l k (k + 1) :=
  ⟨rfl, by rw [ddp_next_eq h1 h e, hi], fun _ _ => rfl, by omega, h1⟩
theorem cpt_same {l cur : List (Int × Int)} {k j : Nat} (h : Cpt l cur k j) (hj : j < l.length) (e : cur.getD j (0, 0) = cur.getD (j - 1) (0, 0)) : Cpt l cur k (j + 1) := by
  have hk := h.lt
  have h1 := h.le
  refine ⟨h.len, ?_, fun i hi => h.rest i (by omega), by omega, h1⟩
  rw [ddp_next_eq (by omega) hj (by rw [← h.rest j (by omega), ← h.rest (j - 1) (by omega)]; exact e)]; exact h.front
theorem cpt_new {l cur : List (Int × Int)} {k j : Nat} {x y : Int} (h : Cpt l cur k j) (hj : j < l.length) (e : cur.getD j (0, 0) ≠ cur.getD (j - 1) (0, 0)) (hx : x = (cur.getD j (0, 0)).1) (hy : y = (cur.getD j (0, 0)).2) : Cpt l (cur.set k (x, y)) (k + 1) (j + 1) := by
  subst hx; subst hy
  have hk := h.lt
  have h1 := h.le
  have hl := h.len
  refine ⟨by rw [List.length_set]; exact hl, ?_, fun i hi => ?_, by omega, by omega⟩
  · rw [ddp_next_ne (by omega) hj (by rw [← h.rest j (by omega), ← h.rest (j - 1) (by omega)]; exact e), ← h.front, take_one_more (by rw [List.length_set]; omega)]
    congr 1
    · rw [List.take_set_of_le (Nat.le_refl _)]
    · rw [getD_lt (by rw [List.length_set]; omega), List.getElem_set_self, h.rest j (by omega)]
  · rw [← h.rest i (by omega), List.getD_eq_getElem?_getD, List.getElem?_set_ne (by omega)]; rfl
theorem cpt_end {l cur : List (Int × Int)} {k j : Nat} (h : Cpt l cur k j) (hj : l.length ≤ j) (hjl : j ≤ l.length) : ddp l = cur.take k ∧ (ddp l).length = k := by
  have hk := h.lt
  have e : ddp l = cur.take k := by rw [h.front, List.take_of_length_le hj]
  exact ⟨e, by rw [e, List.length_take, h.len]; omega⟩
theorem cpt_same2 {l cur : List (Int × Int)} {k k0 j : Nat} (h1 : 1 ≤ j) (h : Cpt l cur k (k0 + j)) (hj : k0 + j < l.length) (e : cur.getD (k0 + j) (0, 0) = cur.getD (k0 + (j - 1)) (0, 0)) : Cpt l cur k (k0 + (j + 1)) :=
  cpt_same (j := k0 + j) h hj (by rw [show k0 + (j - 1) = k0 + j - 1 by omega] at e; exact e)
theorem cpt_new2 {l cur : List (Int × Int)} {k k0 j : Nat} (h1 : 1 ≤ j) (h : Cpt l cur k (k0 + j)) (hj : k0 + j < l.length) (e : cur.getD (k0 + j) (0, 0) ≠ cur.getD (k0 + (j - 1)) (0, 0)) : Cpt l (cur.set k ((cur.getD (k0 + j) (0, 0)).1, (cur.getD (k0 + j) (0, 0)).2)) (k + 1) (k0 + (j + 1)) :=
  cpt_new (j := k0 + j) h hj (by rw [show k0 + (j - 1) = k0 + j - 1 by omega] at e; exact e) rfl rfl
theorem nb_f {b : Bool} (h : (!b) = false) : b = true := by simpa using h
theorem nb_t {b : Bool} (h : (!b) = true) : b = false := by simpa using h
theorem cut_take {ps : List (Int × Int)} {k : Nat} : (ps.take k).flatMap ptc = (ps.flatMap ptc).take (2 * k) := by
  have := cut_pairs (ps := ps) (off := 0) (j := 0) (m := 2 * k) (k := k) (by omega) rfl
  rw [List.drop_zero, List.drop_zero] at this; exact this.symm
def stk (l : List (Int × Int)) : Nat → List (Int × Int)
  | 0 => []
  | i + 1 => l.getD i (0, 0) :: popC (l.getD i (0, 0)) (stk l i)
/-- a chain without its last point -/
def chO (l : List (Int × Int)) : List (Int × Int) := (stk l l.length).tail.reverse
theorem popC_mem {q : Int × Int} : ∀ {c : List (Int × Int)} {p : Int × Int}, p ∈ popC q c → p ∈ c
  | [], p, h => h
  | [a], p, h => h
  | b :: a :: r, p, h => by
    rw [popC] at h
    split at h
    · exact List.mem_cons_of_mem _ (popC_mem h)
    · exact h
theorem stk_mem {l : List (Int × Int)} : ∀ {i : Nat} {p : Int × Int}, i ≤ l.length → p ∈ stk l i → p ∈ l
  | 0, p, _, h => by simp [stk] at h
  | i + 1, p, hi, h => by
    rcases List.mem_cons.1 h with e | e
    · rw [e, getD_lt (by omega)]; exact List.getElem_mem _
    · exact stk_mem (by omega) (popC_mem e)
theorem few_stk {m : Int} {bs l c : List (Int × Int)} (hm : 0 ≤ m) (hb : Few m bs) (hl : Few m l) (hc : ∀ p ∈ c, p ∈ l) : Few m (bs ++ c.reverse) := by
  refine few_of hm (fun q hq => ?_)
  rcases List.mem_append.1 hq with k | k
  · exact few_mem hb k
  · exact few_mem hl (hc q (List.mem_reverse.1 k))
theorem popC_short {q : Int × Int} {c : List (Int × Int)} (h : c.length ≤ 1) : popC q c = c := by
  match c, h with
  | [], _ => rfl
  | [a], _ => rfl
theorem top_two {bs c : List (Int × Int)} (h : 2 ≤ c.length) : ∃ b a r, c = b :: a :: r ∧ (bs ++ c.reverse).getD (bs.length + c.length - 1) (0, 0) = b ∧ (bs ++ c.reverse).getD (bs.length + c.length - 2) (0, 0) = a := by
  match c, h with
  | b :: a :: r, _ =>
    refine ⟨b, a, r, rfl, ?_, ?_⟩
    · rw [List.getD_eq_getElem?_getD, List.getElem?_append_right (by simp only [List.length_cons]; omega)]
      rw [show bs.length + (b :: a :: r).length - 1 - bs.length = r.length + 1 by simp only [List.length_cons]; omega]; simp
    · rw [List.getD_eq_getElem?_getD, List.getElem?_append_right (by simp only [List.length_cons]; omega)]
      rw [show bs.length + (b :: a :: r).length - 2 - bs.length = r.length by simp only [List.length_cons]; omega]; simp
/-- the code's test: may the last one be taken out? -/
def popB (L : List (Int × Int)) (N : Nat) (x y : Int) : Bool := decide (crs (L.getD (N - 2) (0, 0)).1 (L.getD (N - 2) (0, 0)).2 (L.getD (N - 1) (0, 0)).1 (L.getD (N - 1) (0, 0)).2 x y ≤ 0)
theorem popB_dec (L N x y) : decide (cmp (crs (List.getD L (N - 2) (0, 0)).1 (List.getD L (N - 2) (0, 0)).2 (List.getD L (N - 1) (0, 0)).1 (List.getD L (N - 1) (0, 0)).2 x y) 0 ≤ 0) = popB L N x y := by
  unfold popB; rw [Bool.eq_iff_iff, decide_eq_true_eq, decide_eq_true_eq]; unfold cmp; split <;> (try split) <;> omega
theorem popC_yes {bs c : List (Int × Int)} {q : Int × Int} (h : 2 ≤ c.length) (hb : popB (bs ++ c.reverse) (bs.length + c.length) q.1 q.2 = true) : popC q c.tail = popC q c := by
  obtain ⟨b, a, r, rfl, e1, e2⟩ := top_two (bs := bs) h
  unfold popB at hb
  rw [e1, e2, decide_eq_true_eq] at hb
  rw [List.tail_cons, popC.eq_1, if_pos (show crP a b q ≤ 0 from hb)]
theorem popC_no {bs c : List (Int × Int)} {q : Int × Int} (h : 2 ≤ c.length) (hb : popB (bs ++ c.reverse) (bs.length + c.length) q.1 q.2 = false) : popC q c = c := by
  obtain ⟨b, a, r, rfl, e1, e2⟩ := top_two (bs := bs) h
  unfold popB at hb
  rw [e1, e2, decide_eq_false_iff_not] at hb
  rw [popC, if_neg (show ¬ crP a b q ≤ 0 from hb)]
theorem stk_next {l c : List (Int × Int)} {i : Nat} (h : popC (l.getD i (0, 0)) c = popC (l.getD i (0, 0)) (stk l i)) (h2 : popC (l.getD i (0, 0)) c = c) : stk l (i + 1) = l.getD i (0, 0) :: c := by
  rw [stk, ← h, h2]
theorem stk_pos {l : List (Int × Int)} {i : Nat} (h : 1 ≤ i) : 1 ≤ (stk l i).length := by
  cases i with
  | zero => omega
  | succ i => simp [stk]
theorem popC_len {q : Int × Int} : ∀ {c : List (Int × Int)}, (popC q c).length ≤ c.length
  | [] => Nat.le_refl _
  | [a] => Nat.le_refl _
  | b :: a :: r => by
    rw [popC]
    split
    · exact Nat.le_trans popC_len (by simp)
    · exact Nat.le_refl _
theorem stk_len (l : List (Int × Int)) : ∀ i, (stk l i).length ≤ i
  | 0 => Nat.le_refl _
  | i + 1 => by rw [stk, List.length_cons]; have := popC_len (q := l.getD i (0, 0)) (c := stk l i); have := stk_len l i; omega
theorem chO_len {l : List (Int × Int)} : (chO l).length = (stk l l.length).length - 1 := by unfold chO; simp
theorem stk_chS {l : List (Int × Int)} : ∀ (k i : Nat), i + k = l.length → chS (stk l i) (l.drop i) = stk l l.length
  | 0, i, h => by rw [List.drop_of_length_le (by omega), show i = l.length by omega]; rfl
  | k + 1, i, h => by
    rw [List.drop_eq_getElem_cons (by omega), chS, ← stk_chS k (i + 1) (by omega), stk, getD_lt (by omega)]
theorem stk_all (l : List (Int × Int)) : stk l l.length = chS [] l := by
  have := stk_chS (l := l) l.length 0 (by omega)
  rw [List.drop_zero] at this; exact this.symm
theorem pop_take {bs c : List (Int × Int)} (h : 1 ≤ c.length) : ((bs ++ c.tail.reverse).flatMap ptc) = ((bs ++ c.reverse).flatMap ptc).take (2 * (bs.length + c.length - 1)) := by
  rw [← cut_take]
  congr 1
  match c, h with
  | a :: r, _ =>
    rw [List.tail_cons, List.reverse_cons, ← List.append_assoc, List.take_append_of_le_length (by simp), List.take_of_length_le (by simp)]
theorem stk_snoc {bs l c : List (Int × Int)} {i : Nat} (h : popC (l.getD i (0, 0)) c = popC (l.getD i (0, 0)) (stk l i)) (h2 : popC (l.getD i (0, 0)) c = c) :
    (bs ++ c.reverse).flatMap ptc ++ [.int .i64 (l.getD i (0, 0)).1, .int .i64 (l.getD i (0, 0)).2] = (bs ++ (stk l (i + 1)).reverse).flatMap ptc := by
  rw [stk_next h h2]; simp [ptc]
theorem stk_len_next {l c : List (Int × Int)} {i : Nat} (n : Nat) (h : popC (l.getD i (0, 0)) c = popC (l.getD i (0, 0)) (stk l i)) (h2 : popC (l.getD i (0, 0)) c = c) : n + (stk l (i + 1)).length = n + c.length + 1 := by
  rw [stk_next h h2, List.length_cons]; omega
theorem chO_len2 {bs l : List (Int × Int)} (h : 1 ≤ l.length) : (bs ++ chO l).length = bs.length + (stk l l.length).length - 1 := by
  rw [List.length_append, chO_len]; have := stk_pos (l := l) h; omega
/-- the hull of points in their order, each once -/
def hullL (s : List (Int × Int)) : List (Int × Int) := if s.length < 2 then s else chO s ++ chO s.reverse
/-- the hull of points -/
def hullF (ps : List (Int × Int)) : List (Int × Int) := hullL (ddp (srtP ps))
theorem hullF_short {qs ss ds : List (Int × Int)} (hss : srtP qs = ss) (hds : ddp ss = ds) (h : ds.length < 2) : hullF qs = ds := by
  unfold hullF hullL; rw [hss, hds, if_pos h]
theorem hullF_long {qs ss ds : List (Int × Int)} (hss : srtP qs = ss) (hds : ddp ss = ds) (h : ¬ ds.length < 2) : hullF qs = chO ds ++ chO ds.reverse := by
  unfold hullF hullL; rw [hss, hds, if_neg h]
theorem ddp_mem : ∀ {l : List (Int × Int)} {p : Int × Int}, p ∈ ddp l ↔ p ∈ l
  | [], p => Iff.rfl
  | [a], p => Iff.rfl
  | a :: b :: r, p => by
    have ih := ddp_mem (l := b :: r) (p := p)
    rw [ddp]
    split
    · rename_i h; subst h; rw [ih]; simp
    · rw [List.mem_cons, ih, List.mem_cons]
      simp [List.mem_cons]
theorem ddp_length (l : List (Int × Int)) : (ddp l).length ≤ l.length := by
  match l with
  | [] => exact Nat.le_refl _
  | [a] => exact Nat.le_refl _
  | a :: b :: r =>
    have ih := ddp_length (b :: r)
    rw [ddp]
    split
    · exact Nat.le_trans ih (by simp)
    · simp only [List.length_cons] at *; omega
theorem ddp_pos {l : List (Int × Int)} (h : 1 ≤ l.length) : 1 ≤ (ddp l).length := by
  cases l with
  | nil => simp at h
  | cons a r => obtain ⟨t, e⟩ := ddp_cons_head a r; rw [e]; simp
theorem chO_mem {l : List (Int × Int)} {p : Int × Int} (h : p ∈ chO l) : p ∈ l := by
  unfold chO at h
  exact stk_mem (Nat.le_refl _) (List.mem_of_mem_tail (List.mem_reverse.1 h))
theorem chO_length (l : List (Int × Int)) : (chO l).length ≤ l.length := by rw [chO_len]; have := stk_len l l.length; omega
/-- is the point left of all edges from here on? -/
def hasL (h : List (Int × Int)) (x y : Int) (i : Nat) : Bool :=
  if i < h.length then if crs (h.getD i (0, 0)).1 (h.getD i (0, 0)).2 (h.getD ((i + 1) % h.length) (0, 0)).1 (h.getD ((i + 1) % h.length) (0, 0)).2 x y < 0 then false else hasL h x y (i + 1) else true
termination_by h.length - i
theorem hasL_end {h : List (Int × Int)} {x y : Int} {i : Nat} (hi : ¬ i < h.length) : hasL h x y i = true := by rw [hasL, if_neg hi]
theorem cmp_lt0 (n : Int) : decide (cmp n 0 < 0) = decide (n < 0) := by
  rw [Bool.eq_iff_iff, decide_eq_true_eq, decide_eq_true_eq]; unfold cmp; split <;> (try split) <;> omega
theorem hasL_out {h : List (Int × Int)} {x y : Int} {i j : Nat} (hi : i < h.length) (hj : (i + 1) % h.length = j) (e : decide (cmp (crs (h.getD i (0, 0)).1 (h.getD i (0, 0)).2 (h.getD j (0, 0)).1 (h.getD j (0, 0)).2 x y) 0 < 0) = true) : hasL h x y i = false := by
  rw [cmp_lt0, decide_eq_true_eq] at e
  rw [hasL, if_pos hi, hj, if_pos e]
theorem hasL_next {h : List (Int × Int)} {x y : Int} {i j : Nat} (hi : i < h.length) (hj : (i + 1) % h.length = j) (e : decide (cmp (crs (h.getD i (0, 0)).1 (h.getD i (0, 0)).2 (h.getD j (0, 0)).1 (h.getD j (0, 0)).2 x y) 0 < 0) = false) : hasL h x y (i + 1) = hasL h x y i := by
  rw [cmp_lt0, decide_eq_false_iff_not] at e
  conv => rhs; rw [hasL, if_pos hi, hj, if_neg e]
/-- does the hull contain the point? -/
def hasH (h : List (Int × Int)) (x y : Int) : Bool :=
  if h.length = 0 then false else if h.length = 1 then (((h.getD 0 (0, 0)).1 == x) && (((h.getD 0 (0, 0)).2 == y) && true))
  else if h.length = 2 then onb (h.getD 0 (0, 0)).1 (h.getD 0 (0, 0)).2 (h.getD 1 (0, 0)).1 (h.getD 1 (0, 0)).2 x y else hasL h x y 0
theorem hasH_0 {h : List (Int × Int)} {x y : Int} (e : h.length = 0) : hasH h x y = false := by unfold hasH; rw [if_pos e]
theorem hasH_1 {h : List (Int × Int)} {x y : Int} (e : h.length = 1) : hasH h x y = (((h.getD 0 (0, 0)).1 == x) && (((h.getD 0 (0, 0)).2 == y) && true)) := by unfold hasH; rw [if_neg (by omega), if_pos e]
theorem hasH_2 {h : List (Int × Int)} {x y : Int} (e : h.length = 2) : hasH h x y = onb (h.getD 0 (0, 0)).1 (h.getD 0 (0, 0)).2 (h.getD 1 (0, 0)).1 (h.getD 1 (0, 0)).2 x y := by unfold hasH; rw [if_neg (by omega), if_neg (by omega), if_pos e]
theorem hasH_3 {h : List (Int × Int)} {x y : Int} (e : 3 ≤ h.length) : hasH h x y = hasL h x y 0 := by unfold hasH; rw [if_neg (by omega), if_neg (by omega), if_neg (by omega)]
end Go.Proofs.Ytomnkdlfmjdckaa.Am.Sp
set_option linter.unusedVariables false
set_option linter.unusedSimpArgs false
namespace Go.Proofs.Ytomnkdlfmjdckaa.Am.Sp
open Go
def negP (p : Int × Int) : Int × Int := (-p.1, -p.2)
theorem crP_neg (a b c : Int × Int) : crP (negP a) (negP b) (negP c) = crP a b c := by unfold crP crs negP; grind
theorem lxP_neg {a b : Int × Int} : lxP (negP a) (negP b) ↔ lxP b a := by unfold lxP negP; simp only []; omega
theorem negP_inj {a b : Int × Int} (h : negP a = negP b) : a = b := by
  unfold negP at h; rw [Prod.mk.injEq] at h; exact Prod.ext (by omega) (by omega)
theorem popC_map (q : Int × Int) : ∀ (c : List (Int × Int)), popC (negP q) (c.map negP) = (popC q c).map negP
  | [] => rfl
  | [a] => rfl
  | b :: a :: r => by
    have ih := popC_map q (a :: r)
    rw [List.map_cons] at ih
    rw [List.map_cons, List.map_cons, popC, popC, crP_neg, ih]
    split <;> rfl
theorem chS_map : ∀ (l acc : List (Int × Int)), chS (acc.map negP) (l.map negP) = (chS acc l).map negP
  | [], acc => rfl
  | q :: t, acc => by
    rw [List.map_cons, chS, chS, popC_map, ← List.map_cons]
    exact chS_map t _
theorem Lf.at {S : List (Int × Int)} : ∀ {C : List (Int × Int)} {j : Nat}, Lf S C → j + 1 < C.length → ∀ p ∈ S, 0 ≤ crP (C.getD (j + 1) (0, 0)) (C.getD j (0, 0)) p
  | b :: a :: r, 0, h, _, p, hp => h.1 p hp
  | b :: a :: r, j + 1, h, hj, p, hp => Lf.at (C := a :: r) (j := j) h.2 (by simpa using hj) p hp
  | [x], j, _, hj, _, _ => by simp at hj
  | [], j, _, hj, _, _ => by simp at hj
theorem Tr.at : ∀ {C : List (Int × Int)} {j : Nat}, Tr C → j + 2 < C.length → 0 < crP (C.getD (j + 2) (0, 0)) (C.getD (j + 1) (0, 0)) (C.getD j (0, 0))
  | c :: b :: a :: r, 0, h, _ => h.1
  | c :: b :: a :: r, j + 1, h, hj => Tr.at (C := b :: a :: r) (j := j) h.2 (by simpa using hj)
  | [x, y], j, _, hj => by simp only [List.length_cons, List.length_nil] at hj; omega
  | [x], j, _, hj => by simp at hj
  | [], j, _, hj => by simp at hj
theorem Ds.at : ∀ {C : List (Int × Int)} {j : Nat}, Ds C → j + 1 < C.length → lxP (C.getD (j + 1) (0, 0)) (C.getD j (0, 0))
  | b :: a :: r, 0, h, _ => h.1
  | b :: a :: r, j + 1, h, hj => Ds.at (C := a :: r) (j := j) h.2 (by simpa using hj)
  | [x], j, _, hj => by simp at hj
  | [], j, _, hj => by simp at hj
theorem ddp_rise : ∀ {l : List (Int × Int)}, l.Pairwise (fun a b => leB a b = true) → (ddp l).Pairwise lxP
  | [], h => .nil
  | [a], h => List.pairwise_singleton _ _
  | a :: b :: r, h => by
    have hh := List.pairwise_cons.1 h
    have ih := ddp_rise hh.2
    rw [ddp]
    split
    · exact ih
    · rename_i hne
      refine List.pairwise_cons.2 ⟨fun x hx => ?_, ih⟩
      have hx' := ddp_mem.1 hx
      have h1 := (leB_iff a x).1 (hh.1 x hx')
      rcases lxP.tri a x with k | k | k
      · exact k
      · subst k
        exfalso
        rcases List.mem_cons.1 hx' with e | e
        · exact hne e
        · have h2 := (List.pairwise_cons.1 hh.2).1 a e
          exact hne (leB_anti (hh.1 b (by simp)) h2)
      · exact (h1 k).elim
/-- the points of a list in their order, each once -/
def srd (ps : List (Int × Int)) : List (Int × Int) := ddp (srtP ps)
theorem srd_rise (ps) : (srd ps).Pairwise lxP := ddp_rise (srtP_sorted ps)
theorem srd_mem {ps : List (Int × Int)} {p : Int × Int} : p ∈ srd ps ↔ p ∈ ps := ddp_mem.trans (srtP_perm ps).mem_iff
/-- both chains of points in their order -/
structure Hul (S L U : List (Int × Int)) : Prop where
  low : Chn S L
  up : Chn (S.map negP) (U.map negP)
theorem hul_of {s : List (Int × Int)} (h : s.Pairwise lxP) (h1 : 1 ≤ s.length) : Hul s (stk s s.length) (stk s.reverse s.reverse.length) := by
  rw [stk_all, stk_all]
  cases s with
  | nil => simp at h1
  | cons a t =>
    refine ⟨chn_of h, ?_⟩
    have hr : ((a :: t).reverse.map negP).Pairwise lxP := by
      rw [List.pairwise_map]
      exact List.pairwise_reverse.2 (h.imp (fun k => lxP_neg.2 k))
    cases hx : (a :: t).reverse with
    | nil => simp at hx
    | cons b r =>
      rw [hx, List.map_cons] at hr
      have := chn_of hr
      have e : chS ([] : List (Int × Int)) (negP b :: r.map negP) = (chS [] (b :: r)).map negP := chS_map (b :: r) []
      rw [e] at this
      have hmem : ∀ p, p ∈ negP b :: r.map negP ↔ p ∈ (a :: t).map negP := fun p => by
        rw [← List.map_cons, ← hx, List.map_reverse, List.mem_reverse]
      refine this.less (fun p hp => (hmem p).2 hp) (fun p hp => (hmem p).1 (this.sub p hp))
/-- no hull but this one -/
theorem Hul.uniq {S L U L' U' : List (Int × Int)} (h : Hul S L U) (h' : Hul S L' U') : L = L' ∧ U = U' := by
  refine ⟨h.low.uniq h'.low, ?_⟩
  have := h.up.uniq h'.up
  exact (List.map_inj_right (fun a b => negP_inj)).1 this
theorem Hul.less {S S' L U : List (Int × Int)} (h : Hul S L U) (h1 : ∀ p ∈ S', p ∈ S) (h2 : ∀ p ∈ L, p ∈ S') (h3 : ∀ p ∈ U, p ∈ S') : Hul S' L U := by
  refine ⟨h.low.less h1 h2, h.up.less (fun p hp => ?_) (fun p hp => ?_)⟩
  · obtain ⟨q, hq, rfl⟩ := List.mem_map.1 hp; exact List.mem_map.2 ⟨q, h1 q hq, rfl⟩
  · obtain ⟨q, hq, rfl⟩ := List.mem_map.1 hp; exact List.mem_map.2 ⟨q, h3 q hq, rfl⟩
theorem getD_map_neg {l : List (Int × Int)} {i : Nat} : (l.map negP).getD i (0, 0) = negP (l.getD i (0, 0)) := by
  rw [List.getD_eq_getElem?_getD, List.getElem?_map, List.getD_eq_getElem?_getD]
  cases l[i]? with
  | none => rfl
  | some x => rfl
section
variable {S L U : List (Int × Int)} (h : Hul S L U)
include h
theorem Hul.lowL {j : Nat} (hj : j + 1 < L.length) {p : Int × Int} (hp : p ∈ S) : 0 ≤ crP (L.getD (j + 1) (0, 0)) (L.getD j (0, 0)) p := h.low.lf.at hj p hp
theorem Hul.upL {j : Nat} (hj : j + 1 < U.length) {p : Int × Int} (hp : p ∈ S) : 0 ≤ crP (U.getD (j + 1) (0, 0)) (U.getD j (0, 0)) p := by
  have := h.up.lf.at (j := j) (by simpa using hj) (negP p) (List.mem_map.2 ⟨p, hp, rfl⟩)
  rw [getD_map_neg, getD_map_neg, crP_neg] at this; exact this
theorem Hul.upT {j : Nat} (hj : j + 2 < U.length) : 0 < crP (U.getD (j + 2) (0, 0)) (U.getD (j + 1) (0, 0)) (U.getD j (0, 0)) := by
  have := h.up.tr.at (j := j) (by simpa using hj)
  rw [getD_map_neg, getD_map_neg, getD_map_neg, crP_neg] at this; exact this
theorem Hul.upD {j : Nat} (hj : j + 1 < U.length) : lxP (U.getD j (0, 0)) (U.getD (j + 1) (0, 0)) := by
  have := h.up.ds.at (j := j) (by simpa using hj)
  rw [getD_map_neg, getD_map_neg, lxP_neg] at this; exact this
theorem Hul.posL : 1 ≤ L.length := by obtain ⟨c, r, e, _⟩ := h.low.tp; rw [e]; simp
theorem Hul.posU : 1 ≤ U.length := by
  obtain ⟨c, r, e, _⟩ := h.up.tp
  have : (U.map negP).length = (c :: r).length := by rw [e]
  simp at this; omega
theorem Hul.top : L.getD 0 (0, 0) ∈ S ∧ ∀ p ∈ S, p = L.getD 0 (0, 0) ∨ lxP p (L.getD 0 (0, 0)) := by
  obtain ⟨c, r, e, k⟩ := h.low.tp
  subst e
  exact ⟨h.low.sub c (by simp), k⟩
theorem Hul.bot : L.getD (L.length - 1) (0, 0) ∈ S ∧ ∀ p ∈ S, p = L.getD (L.length - 1) (0, 0) ∨ lxP (L.getD (L.length - 1) (0, 0)) p := by
  obtain ⟨z, e, k⟩ := h.low.bt
  have hp := h.posL
  rw [List.getLast?_eq_getElem?, List.getElem?_eq_getElem (by omega), Option.some.injEq] at e
  rw [getD_lt (by omega), e]
  exact ⟨h.low.sub z (e ▸ List.getElem_mem _), k⟩
theorem Hul.upS {p : Int × Int} (hp : p ∈ U) : p ∈ S := by
  have := h.up.sub (negP p) (List.mem_map.2 ⟨p, hp, rfl⟩)
  obtain ⟨q, hq, e⟩ := List.mem_map.1 this
  exact negP_inj e ▸ hq
/-- the upper chain begins where the lower one ends, and ends where it begins -/
theorem Hul.utop : U.getD 0 (0, 0) = L.getD (L.length - 1) (0, 0) := by
  obtain ⟨c, r, e, k⟩ := h.up.tp
  have hp := h.posU
  have e0 : negP (U.getD 0 (0, 0)) = c := by rw [← getD_map_neg, e]; rfl
  have hU : U.getD 0 (0, 0) ∈ S := h.upS (by rw [getD_lt hp]; exact List.getElem_mem _)
  rcases h.bot.2 _ hU with q | q
  · exact q
  · have := k (negP (L.getD (L.length - 1) (0, 0))) (List.mem_map.2 ⟨_, h.bot.1, rfl⟩)
    rw [← e0] at this
    rcases this with g | g
    · exact (negP_inj g).symm
    · exact (q.trans (lxP_neg.1 g)).irr.elim
theorem Hul.ubot : U.getD (U.length - 1) (0, 0) = L.getD 0 (0, 0) := by
  obtain ⟨z, e, k⟩ := h.up.bt
  have hp := h.posU
  rw [List.getLast?_eq_getElem?, List.getElem?_map, List.length_map, List.getElem?_eq_getElem (by omega)] at e
  have e0 : negP (U.getD (U.length - 1) (0, 0)) = z := by rw [getD_lt (by omega)]; simpa using e
  have hU : U.getD (U.length - 1) (0, 0) ∈ S := h.upS (by rw [getD_lt (by omega)]; exact List.getElem_mem _)
  rcases h.top.2 _ hU with q | q
  · exact q
  · have := k (negP (L.getD 0 (0, 0))) (List.mem_map.2 ⟨_, h.top.1, rfl⟩)
    rw [← e0] at this
    rcases this with g | g
    · exact (negP_inj g).symm
    · exact (q.trans (lxP_neg.1 g)).irr.elim
/-- the corners: the lower chain to the right, the upper one back -/
def ring2 (L U : List (Int × Int)) : List (Int × Int) := L.tail.reverse ++ U.tail.reverse
omit h in
theorem ring2_len : (ring2 L U).length = (L.length - 1) + (U.length - 1) := by unfold ring2; simp
omit h in
theorem tail_rev {C : List (Int × Int)} {i : Nat} (hi : i < C.length - 1) : C.tail.reverse.getD i (0, 0) = C.getD (C.length - 1 - i) (0, 0) := by
  rw [getD_lt (by simpa using hi), List.getElem_reverse, List.getElem_tail, getD_lt (by omega)]
  congr 1
  simp only [List.length_tail]; omega
/-- the place of a corner -/
def cnr (L U : List (Int × Int)) (i : Nat) : Int × Int := if i ≤ L.length - 1 then L.getD (L.length - 1 - i) (0, 0) else U.getD (U.length - 1 - (i - (L.length - 1))) (0, 0)
theorem Hul.ring_at {i : Nat} (hi : i < (ring2 L U).length) : (ring2 L U).getD i (0, 0) = cnr L U i := by
  rw [ring2_len] at hi
  unfold cnr ring2
  have hp := h.posL
  by_cases c : i < L.length - 1
  · rw [if_pos (by omega), List.getD_eq_getElem?_getD, List.getElem?_append_left (by simpa using c), ← List.getD_eq_getElem?_getD, tail_rev c]
  · have e : ((L.tail.reverse ++ U.tail.reverse).getD i (0, 0)) = U.getD (U.length - 1 - (i - (L.length - 1))) (0, 0) := by
      rw [List.getD_eq_getElem?_getD, List.getElem?_append_right (by simp; omega), ← List.getD_eq_getElem?_getD]
      rw [show i - L.tail.reverse.length = i - (L.length - 1) by simp, tail_rev (by omega)]
    rw [e]
    split
    · have : i = L.length - 1 := by omega
      subst this
      rw [Nat.sub_self, Nat.sub_zero, h.ubot]
    · rfl
theorem Hul.two (h2 : 2 ≤ L.length) : 2 ≤ U.length := by
  rcases Nat.lt_or_ge U.length 2 with c | c
  · have hp := h.posU
    have e := h.utop
    have e2 := h.ubot
    rw [show U.length - 1 = 0 by omega, e] at e2
    -- the lowest one is the highest one
    have hd := h.low.ds.at (j := 0) (by omega)
    have hb := h.bot.2 (L.getD 1 (0, 0)) (h.low.sub _ (by rw [getD_lt (by omega)]; exact List.getElem_mem _))
    rw [e2] at hb
    rcases hb with k | k
    · rw [k] at hd; exact hd.irr.elim
    · exact (hd.trans k).irr.elim
  · exact c
theorem Hul.cnr_end (h2 : 2 ≤ L.length) : cnr L U ((ring2 L U).length) = cnr L U 0 := by
  have hu := h.two h2
  rw [ring2_len]
  unfold cnr
  rw [if_neg (by omega), if_pos (by omega), show U.length - 1 - (L.length - 1 + (U.length - 1) - (L.length - 1)) = 0 by omega, h.utop, Nat.sub_zero]
/-- from a corner to the next one -/
theorem Hul.next (h2 : 2 ≤ L.length) {i : Nat} (hi : i < (ring2 L U).length) : (ring2 L U).getD ((i + 1) % (ring2 L U).length) (0, 0) = cnr L U (i + 1) := by
  have hu := h.two h2
  by_cases c : i + 1 = (ring2 L U).length
  · rw [c, Nat.mod_self, h.ring_at (by omega), h.cnr_end h2]
  · rw [Nat.mod_eq_of_lt (by omega), h.ring_at (by omega)]
theorem Hul.edge (h2 : 2 ≤ L.length) {i : Nat} (hi : i < (ring2 L U).length) {p : Int × Int} (hp : p ∈ S) : 0 ≤ crP (cnr L U i) (cnr L U (i + 1)) p := by
  have hu := h.two h2
  rw [ring2_len] at hi
  unfold cnr
  by_cases c : i < L.length - 1
  · rw [if_pos (by omega), if_pos (by omega)]
    have := h.lowL (j := L.length - 1 - (i + 1)) (by omega) hp
    rwa [show L.length - 1 - (i + 1) + 1 = L.length - 1 - i by omega] at this
  · rw [if_neg (show ¬ i + 1 ≤ L.length - 1 by omega)]
    have := h.upL (j := U.length - 1 - (i + 1 - (L.length - 1))) (by omega) hp
    rw [show U.length - 1 - (i + 1 - (L.length - 1)) + 1 = U.length - 1 - (i - (L.length - 1)) by omega] at this
    split
    · have e : i = L.length - 1 := by omega
      subst e
      rw [Nat.sub_self, Nat.sub_zero, h.ubot] at this
      rw [Nat.sub_self]; exact this
    · exact this
omit h in
/-- at the outermost point: the two edges are not on one line, unless all is -/
theorem joint {x y z p : Int × Int} (hx : lxP x y) (hz : lxP z y) (h0 : crP x y z = 0) (h1 : 0 ≤ crP x y p) (h2 : 0 ≤ crP y z p) : crP x y p = 0 ∧ crP y z p = 0 := by
  have e1 : (y.1 - x.1) * crP y z p + (y.1 - z.1) * crP x y p = -((p.1 - y.1) * crP x y z) := by unfold crP crs; grind
  have e2 : (y.2 - x.2) * crP y z p + (y.2 - z.2) * crP x y p = -((p.2 - y.2) * crP x y z) := by unfold crP crs; grind
  rw [h0, Int.mul_zero] at e1 e2
  unfold lxP at hx hz
  generalize crP y z p = Y at *
  generalize crP x y p = X at *
  have n1 : 0 ≤ (y.1 - x.1) * Y := mulnnH (by omega) h2
  have n2 : 0 ≤ (y.1 - z.1) * X := mulnnH (by omega) h1
  have z1 : (y.1 - x.1) * Y = 0 := by omega
  have z2 : (y.1 - z.1) * X = 0 := by omega
  have m1 : 0 ≤ (y.2 - x.2) * Y := by
    rcases Int.mul_eq_zero.1 z1 with k | k
    · exact mulnnH (by omega) h2
    · rw [k, Int.mul_zero]; exact Int.le_refl _
  have m2 : 0 ≤ (y.2 - z.2) * X := by
    rcases Int.mul_eq_zero.1 z2 with k | k
    · exact mulnnH (by omega) h1
    · rw [k, Int.mul_zero]; exact Int.le_refl _
  have y1 : (y.2 - x.2) * Y = 0 := by omega
  have y2 : (y.2 - z.2) * X = 0 := by omega
  constructor
  · rcases Int.mul_eq_zero.1 z2 with k | k
    · exact (Int.mul_eq_zero.1 y2).resolve_left (by omega)
    · exact k
  · rcases Int.mul_eq_zero.1 z1 with k | k
    · exact (Int.mul_eq_zero.1 y1).resolve_left (by omega)
    · exact k
theorem Hul.memL {j : Nat} (hj : j < L.length) : L.getD j (0, 0) ∈ S := h.low.sub _ (by rw [getD_lt hj]; exact List.getElem_mem _)
theorem Hul.memU {j : Nat} (hj : j < U.length) : U.getD j (0, 0) ∈ S := h.upS (by rw [getD_lt hj]; exact List.getElem_mem _)
/-- where the chains meet on the right, the turn is to the left -/
theorem Hul.right (h2 : 2 ≤ L.length) (h3 : 2 < (ring2 L U).length) : 0 < crP (L.getD 1 (0, 0)) (L.getD 0 (0, 0)) (U.getD (U.length - 2) (0, 0)) := by
  have hu := h.two h2
  rw [ring2_len] at h3
  have a := h.lowL (j := 0) (by omega) (h.memU (j := U.length - 2) (by omega))
  rw [Nat.zero_add] at a
  have hz := h.upD (j := U.length - 2) (by omega)
  rw [show U.length - 2 + 1 = U.length - 1 by omega, h.ubot] at hz
  have hx := h.low.ds.at (j := 0) (by omega)
  rcases Int.lt_or_eq_of_le a with k | k
  · exact k
  · exfalso
    have all : ∀ p ∈ S, crP (L.getD 1 (0, 0)) (L.getD 0 (0, 0)) p = 0 ∧ crP (L.getD 0 (0, 0)) (U.getD (U.length - 2) (0, 0)) p = 0 := fun p hp => by
      have u := h.upL (j := U.length - 2) (by omega) hp
      rw [show U.length - 2 + 1 = U.length - 1 by omega, h.ubot] at u
      exact joint hx hz k.symm (h.lowL (j := 0) (by omega) hp) u
    by_cases c : 3 ≤ L.length
    · have t := h.low.tr.at (j := 0) (by omega)
      have := (all _ (h.memL (j := 2) (by omega))).1
      rw [crP_rot] at t
      simp only [Nat.zero_add] at t
      omega
    · have t := h.upT (j := U.length - 3) (by omega)
      have := (all _ (h.memU (j := U.length - 3) (by omega))).2
      rw [show U.length - 3 + 2 = U.length - 1 by omega, show U.length - 3 + 1 = U.length - 2 by omega, h.ubot] at t
      omega
theorem Hul.left (h2 : 2 ≤ L.length) (h3 : 2 < (ring2 L U).length) : 0 < crP (U.getD 1 (0, 0)) (U.getD 0 (0, 0)) (L.getD (L.length - 2) (0, 0)) := by
  have hu := h.two h2
  rw [ring2_len] at h3
  have a := h.upL (j := 0) (by omega) (h.memL (j := L.length - 2) (by omega))
  rw [Nat.zero_add] at a
  have hz := h.low.ds.at (j := L.length - 2) (by omega)
  rw [show L.length - 2 + 1 = L.length - 1 by omega, ← h.utop] at hz
  have hx := h.upD (j := 0) (by omega)
  rcases Int.lt_or_eq_of_le a with k | k
  · exact k
  · exfalso
    have all : ∀ p ∈ S, crP (U.getD 1 (0, 0)) (U.getD 0 (0, 0)) p = 0 ∧ crP (U.getD 0 (0, 0)) (L.getD (L.length - 2) (0, 0)) p = 0 := fun p hp => by
      have u := h.lowL (j := L.length - 2) (by omega) hp
      rw [show L.length - 2 + 1 = L.length - 1 by omega, ← h.utop] at u
      have v := h.upL (j := 0) (by omega) hp
      have q := joint (x := negP (U.getD 1 (0, 0))) (y := negP (U.getD 0 (0, 0))) (z := negP (L.getD (L.length - 2) (0, 0))) (p := negP p) (lxP_neg.2 hx) (lxP_neg.2 hz) (by rw [crP_neg]; exact k.symm) (by rw [crP_neg]; exact v) (by rw [crP_neg]; exact u)
      rw [crP_neg, crP_neg] at q; exact q
    by_cases c : 3 ≤ U.length
    · have t := h.upT (j := 0) (by omega)
      have := (all _ (h.memU (j := 2) (by omega))).1
      rw [crP_rot] at t
      simp only [Nat.zero_add] at t
      omega
    · have t := h.low.tr.at (j := L.length - 3) (by omega)
      have := (all _ (h.memL (j := L.length - 3) (by omega))).2
      rw [show L.length - 3 + 2 = L.length - 1 by omega, show L.length - 3 + 1 = L.length - 2 by omega, ← h.utop] at t
      omega
/-- at each corner the turn is to the left -/
theorem Hul.turn (h2 : 2 ≤ L.length) (h3 : 2 < (ring2 L U).length) {i : Nat} (hi : i < (ring2 L U).length) : 0 < crP ((ring2 L U).getD i (0, 0)) ((ring2 L U).getD ((i + 1) % (ring2 L U).length) (0, 0)) ((ring2 L U).getD ((i + 2) % (ring2 L U).length) (0, 0)) := by
  have hu := h.two h2
  have hr := h.right h2 h3
  have hl := h.left h2 h3
  have hn := ring2_len (L := L) (U := U)
  rw [h.ring_at hi, h.next h2 hi]
  by_cases c : i + 1 < (ring2 L U).length
  · have e := h.next h2 c
    rw [e]
    clear e
    unfold cnr
    by_cases c1 : i + 2 ≤ L.length - 1
    · rw [if_pos (by omega), if_pos (by omega), if_pos (by omega)]
      have := h.low.tr.at (j := L.length - 1 - (i + 2)) (by omega)
      rwa [show L.length - 1 - (i + 2) + 2 = L.length - 1 - i by omega, show L.length - 1 - (i + 2) + 1 = L.length - 1 - (i + 1) by omega] at this
    · by_cases c2 : i + 1 ≤ L.length - 1
      · rw [if_pos (by omega), if_pos (by omega), if_neg (by omega), show L.length - 1 - i = 1 by omega, show L.length - 1 - (i + 1) = 0 by omega, show U.length - 1 - (i + 1 + 1 - (L.length - 1)) = U.length - 2 by omega]
        exact hr
      · rw [if_neg (show ¬ i + 1 ≤ L.length - 1 by omega), if_neg (show ¬ i + 1 + 1 ≤ L.length - 1 by omega)]
        have := h.upT (j := U.length - 1 - (i + 2 - (L.length - 1))) (by omega)
        rw [show U.length - 1 - (i + 2 - (L.length - 1)) + 2 = U.length - 1 - (i - (L.length - 1)) by omega, show U.length - 1 - (i + 2 - (L.length - 1)) + 1 = U.length - 1 - (i + 1 - (L.length - 1)) by omega] at this
        split
        · have e : i = L.length - 1 := by omega
          rw [e, Nat.sub_self, Nat.sub_zero, h.ubot] at this
          rw [e, Nat.sub_self]; exact this
        · exact this
  · have ci : i + 1 = (ring2 L U).length := by omega
    rw [show i + 2 = (ring2 L U).length + 1 by omega, Nat.add_mod_left, Nat.mod_eq_of_lt (by omega), h.ring_at (by omega), ci, h.cnr_end h2]
    unfold cnr
    rw [if_pos (show 0 ≤ L.length - 1 by omega), if_pos (show 1 ≤ L.length - 1 by omega), Nat.sub_zero, ← h.utop, show L.length - 1 - 1 = L.length - 2 by omega]
    have e : (if i ≤ L.length - 1 then L.getD (L.length - 1 - i) (0, 0) else U.getD (U.length - 1 - (i - (L.length - 1))) (0, 0)) = U.getD 1 (0, 0) := by
      split
      · have e : i = L.length - 1 := by omega
        have e2 : U.length - 1 = 1 := by omega
        have := h.ubot
        rw [e2] at this
        rw [e, Nat.sub_self, this]
      · rw [show U.length - 1 - (i - (L.length - 1)) = 1 by omega]
    rw [e]; exact hl
end
end Go.Proofs.Ytomnkdlfmjdckaa.Am.Sp
set_option linter.unusedVariables false
set_option linter.unusedSimpArgs false
namespace Go.Proofs.Ytomnkdlfmjdckaa.Am.Sp
open Go
theorem hullF_eq (ps : List (Int × Int)) : hullF ps = hullL (srd ps) := rfl
theorem hullF_two {ps : List (Int × Int)} (h : 2 ≤ (srd ps).length) : hullF ps = ring2 (stk (srd ps) (srd ps).length) (stk (srd ps).reverse (srd ps).reverse.length) := by
  rw [hullF_eq]; unfold hullL; rw [if_neg (by omega)]; rfl
theorem hullF_one {ps : List (Int × Int)} (h : (srd ps).length < 2) : hullF ps = srd ps := by
  rw [hullF_eq]; unfold hullL; rw [if_pos h]
theorem Hul.longL {S L U : List (Int × Int)} (h : Hul S L U) {a b : Int × Int} (ha : a ∈ S) (hb : b ∈ S) (hne : a ≠ b) : 2 ≤ L.length := by
  rcases Nat.lt_or_ge L.length 2 with c | c
  · have hp := h.posL
    have e : L.length - 1 = 0 := by omega
    have key : ∀ p ∈ S, p = L.getD 0 (0, 0) := fun p hp => by
      have t := h.top.2 p hp
      have u := h.bot.2 p hp
      rw [e] at u
      rcases t with t | t
      · exact t
      · rcases u with u | u
        · exact u
        · exact (t.trans u).irr.elim
    exact (hne ((key a ha).trans (key b hb).symm)).elim
  · exact c
theorem two_ne {s : List (Int × Int)} (h : s.Pairwise lxP) (h2 : 2 ≤ s.length) : ∃ a b, a ∈ s ∧ b ∈ s ∧ a ≠ b := by
  match s, h2 with
  | a :: b :: r, _ =>
    have := (List.pairwise_cons.1 h).1 b (by simp)
    exact ⟨a, b, by simp, by simp, fun e => (e ▸ this).irr⟩
theorem hul_srd {ps : List (Int × Int)} (h : 2 ≤ (srd ps).length) : Hul (srd ps) (stk (srd ps) (srd ps).length) (stk (srd ps).reverse (srd ps).reverse.length) ∧ 2 ≤ (stk (srd ps) (srd ps).length).length := by
  have q := hul_of (srd_rise ps) (by omega)
  obtain ⟨a, b, ha, hb, hne⟩ := two_ne (srd_rise ps) h
  exact ⟨q, q.longL ha hb hne⟩
theorem srd_pos {ps : List (Int × Int)} (h : 1 ≤ ps.length) : 1 ≤ (srd ps).length := by
  cases ps with
  | nil => simp at h
  | cons a r =>
    have : a ∈ srd (a :: r) := srd_mem.2 (by simp)
    cases hs : srd (a :: r) with
    | nil => rw [hs] at this; simp at this
    | cons _ _ => simp
theorem srd_len (ps : List (Int × Int)) : (srd ps).length ≤ ps.length := by
  unfold srd; have := ddp_length (srtP ps); rw [srtP_len] at this; exact this
theorem hull_sub {ps : List (Int × Int)} {q : Int × Int} (h : q ∈ hullF ps) : q ∈ ps := by
  rcases Nat.lt_or_ge (srd ps).length 2 with c | c
  · rw [hullF_one c] at h; exact srd_mem.1 h
  · rw [hullF_two c] at h
    unfold ring2 at h
    rcases List.mem_append.1 h with k | k
    · exact srd_mem.1 (stk_mem (Nat.le_refl _) (List.mem_of_mem_tail (List.mem_reverse.1 k)))
    · exact srd_mem.1 (List.mem_reverse.1 (stk_mem (Nat.le_refl _) (List.mem_of_mem_tail (List.mem_reverse.1 k))))
theorem hull_len {ps : List (Int × Int)} (h : 1 ≤ ps.length) : 1 ≤ (hullF ps).length ∧ (hullF ps).length ≤ 2 * ps.length := by
  have hp := srd_pos h
  have hl := srd_len ps
  rcases Nat.lt_or_ge (srd ps).length 2 with c | c
  · rw [hullF_one c]; omega
  · obtain ⟨q, q2⟩ := hul_srd c
    have a := stk_len (srd ps) (srd ps).length
    have b := stk_len (srd ps).reverse (srd ps).reverse.length
    rw [List.length_reverse] at b
    rw [hullF_two c, ring2_len]
    rw [List.length_reverse]
    omega
theorem hull_turn {ps : List (Int × Int)} (h3 : 2 < (hullF ps).length) {i : Nat} (hi : i < (hullF ps).length) : 0 < crP ((hullF ps).getD i (0, 0)) ((hullF ps).getD ((i + 1) % (hullF ps).length) (0, 0)) ((hullF ps).getD ((i + 2) % (hullF ps).length) (0, 0)) := by
  rcases Nat.lt_or_ge (srd ps).length 2 with c | c
  · rw [hullF_one c] at h3; omega
  · obtain ⟨q, q2⟩ := hul_srd c
    rw [hullF_two c] at *
    exact q.turn q2 h3 hi
/-- all points are left of all edges -/
theorem hull_edge {ps : List (Int × Int)} (h2 : 2 ≤ (hullF ps).length) {i : Nat} (hi : i < (hullF ps).length) {p : Int × Int} (hp : p ∈ ps) : 0 ≤ crP ((hullF ps).getD i (0, 0)) ((hullF ps).getD ((i + 1) % (hullF ps).length) (0, 0)) p := by
  rcases Nat.lt_or_ge (srd ps).length 2 with c | c
  · rw [hullF_one c] at h2; omega
  · obtain ⟨q, q2⟩ := hul_srd c
    rw [hullF_two c] at *
    rw [q.ring_at hi, q.next q2 hi]
    exact q.edge q2 hi (srd_mem.2 hp)
end Go.Proofs.Ytomnkdlfmjdckaa.Am.Sp

namespace Go.Proofs.Ytomnkdlfmjdckaa.Am.Sp
/-- the carry into digit i of a sum -/
def cy (m n : Int) (i : Nat) : Int := (m % 4294967296 ^ i + n % 4294967296 ^ i) / 4294967296 ^ i
end Go.Proofs.Ytomnkdlfmjdckaa.Am.Sp
namespace Go.Proofs.Ytomnkdlfmjdckaa.Am.Sp
def gd (n d : Int) : Bool := decide (0 < d) && (decide (-9223372036854775808 < n) && decide (Nat.gcd n.natAbs d.natAbs = 1))
def fn (n d : Int) : Int := if gd n d = true then n else 0
def fd (n d : Int) : Int := if gd n d = true then d else 1
def rv (n d : Int) : Rat := Rat.divInt (fn n d) (fd n d)
def fitq (q : Rat) : Bool := decide (-9223372036854775807 ≤ q.num) && (decide (q.num ≤ 9223372036854775807) && decide ((q.den : Int) ≤ 9223372036854775807))
end Go.Proofs.Ytomnkdlfmjdckaa.Am.Sp
namespace Go.Proofs.Ytomnkdlfmjdckaa.Am.Sp
end Go.Proofs.Ytomnkdlfmjdckaa.Am.Sp
namespace Go.Proofs.Ytomnkdlfmjdckaa.Am.Sp
end Go.Proofs.Ytomnkdlfmjdckaa.Am.Sp
namespace Go.Proofs.Ytomnkdlfmjdckaa.Am
open Go
end Go.Proofs.Ytomnkdlfmjdckaa.Am
namespace Go.Proofs.Ytomnkdlfmjdckaa.Am.Sp
end Go.Proofs.Ytomnkdlfmjdckaa.Am.Sp
namespace Go.Proofs.Ytomnkdlfmjdckaa.Am
open Go
end Go.Proofs.Ytomnkdlfmjdckaa.Am
namespace Go.Proofs.Ytomnkdlfmjdckaa.Am.Sp
theorem gcd_pos {n d : Int} (hd : 0 < d) : 0 < (Int.gcd n d : Int) := by
  have : 0 < Int.gcd n d := Int.gcd_pos_of_ne_zero_right n (by omega)
  omega
theorem abs_div (n : Int) {g : Int} (hg : 0 < g) (h : g ∣ n) : (n.natAbs : Int) / g = if n < 0 then -(n / g) else n / g := by
  obtain ⟨k, rfl⟩ := h
  rw [Int.mul_ediv_cancel_left _ (by omega)]
  split
  · rename_i hn
    have e : ((g * k).natAbs : Int) = g * (-k) := by rw [Int.mul_neg]; omega
    rw [e, Int.mul_ediv_cancel_left _ (by omega)]
  · rename_i hn
    have e : ((g * k).natAbs : Int) = g * k := by omega
    rw [e, Int.mul_ediv_cancel_left _ (by omega)]
theorem dI_num {n d : Int} (hd : 0 < d) : (Rat.divInt n d).num = n / (Int.gcd n d : Int) := by
  rw [Rat.num_divInt, Int.sign_eq_one_of_pos hd, Int.one_mul, Int.gcd_comm]
theorem dI_den {n d : Int} (hd : 0 < d) : ((Rat.divInt n d).den : Int) = d / (Int.gcd n d : Int) := by
  rw [Rat.den_divInt, if_neg (by omega), Int.gcd_comm]
  have : (d.natAbs : Int) = d := by omega
  rw [Int.natCast_ediv, this]
theorem quo_bd {a b : Int} (h : 0 ≤ a) (hb : 0 < b) : 0 ≤ a / b ∧ a / b ≤ a := ⟨Int.ediv_nonneg h (by omega), Int.ediv_le_self b h⟩
end Go.Proofs.Ytomnkdlfmjdckaa.Am.Sp
namespace Go.Proofs.Ytomnkdlfmjdckaa.Am.Sp
end Go.Proofs.Ytomnkdlfmjdckaa.Am.Sp
namespace Go.Proofs.Ytomnkdlfmjdckaa.Am.Sp
end Go.Proofs.Ytomnkdlfmjdckaa.Am.Sp
set_option linter.unusedVariables false
namespace Go.Proofs.Ytomnkdlfmjdckaa.Am.Sp
def bl (x : Int) : Int := if x ≤ 0 then 0 else (Nat.log2 x.toNat : Int) + 1
/-- what is known of a guess -/
structure Guess (u y a b c q r : Int) : Prop where
  ya : y = a * 4294967296 + b
  a0 : 2147483648 ≤ a
  a1 : a ≤ 4294967295
  b0 : 0 ≤ b
  b1 : b ≤ 4294967295
  c0 : 0 ≤ c
  c1 : c ≤ 4294967295
  u0 : 0 ≤ u
  u1 : u < y
  qr : q * a + r = u
  q0 : 0 ≤ q
  q1 : q ≤ 4294967297
  r0 : 0 ≤ r
  top : u * 4294967296 + c < q * y + y
theorem Guess.parts {u y a b c q r : Int} (g : Guess u y a b c q r) : q * y = q * a * 4294967296 + q * b := by rw [g.ya]; grind
theorem Guess.first {u y a b c : Int} (ya : y = a * 4294967296 + b) (a0 : 2147483648 ≤ a) (a1 : a ≤ 4294967295) (b0 : 0 ≤ b) (b1 : b ≤ 4294967295) (c0 : 0 ≤ c) (c1 : c ≤ 4294967295) (u0 : 0 ≤ u) (u1 : u < y) :
    Guess u y a b c (u / a) (u - u / a * a) ∧ u - u / a * a ≤ 4294967295 := by
  have e := Int.emod_add_mul_ediv u a
  have m0 := Int.emod_nonneg u (show a ≠ 0 by omega)
  have m1 := Int.emod_lt_of_pos u (show 0 < a by omega)
  have q0 : 0 ≤ u / a := Int.ediv_nonneg u0 (by omega)
  rw [Int.mul_comm] at e
  generalize hq : u / a = q at *
  have q1 : q ≤ 4294967297 := by
    rcases Int.lt_or_le 4294967297 q with h | h
    · exfalso
      have : 4294967298 * a ≤ q * a := Int.mul_le_mul_of_nonneg_right (by omega) (by omega)
      omega
    · exact h
  have hb : 0 ≤ q * b := Int.mul_nonneg q0 b0
  refine ⟨⟨ya, a0, a1, b0, b1, c0, c1, u0, u1, by omega, q0, q1, by omega, ?_⟩, by omega⟩
  have : q * y = q * a * 4294967296 + q * b := by rw [ya]; grind
  rw [this]
  omega
theorem Guess.next {u y a b c q r : Int} (g : Guess u y a b c q r) (h : q ≥ 4294967296 ∨ q * b > 4294967296 * r + c) : Guess u y a b c (q - 1) (r + a) := by
  have p := g.parts
  obtain ⟨ya, a0, a1, b0, b1, c0, c1, u0, u1, qr, q0, q1, r0, top⟩ := g
  have hlt : u * 4294967296 + c < q * y := by
    rcases h with h | h
    · have : 4294967296 * y ≤ q * y := Int.mul_le_mul_of_nonneg_right h (by omega)
      omega
    · rw [p]; omega
  have hq : 1 ≤ q := by
    rcases Int.lt_or_le 0 q with h' | h'
    · omega
    · have e : q = 0 := by omega
      rw [e, Int.zero_mul] at hlt; omega
  have e1 : (q - 1) * a = q * a - a := by grind
  have e2 : (q - 1) * y = q * y - y := by grind
  exact ⟨ya, a0, a1, b0, b1, c0, c1, u0, u1, by rw [e1]; omega, by omega, by omega, by omega, by rw [e2]; omega⟩
theorem Guess.small {u y a b c q r : Int} (g : Guess u y a b c q r) (h : q * y ≤ u * 4294967296 + c) : q ≤ 4294967295 := by
  rcases Int.lt_or_le 4294967295 q with h' | h'
  · exfalso
    have : 4294967296 * y ≤ q * y := Int.mul_le_mul_of_nonneg_right h' (by have := g.u0; have := g.u1; omega)
    have := g.u1; have := g.c1
    omega
  · exact h'
end Go.Proofs.Ytomnkdlfmjdckaa.Am.Sp
namespace Go.Proofs.Ytomnkdlfmjdckaa.Am.Sp
end Go.Proofs.Ytomnkdlfmjdckaa.Am.Sp
namespace Go.Proofs.Ytomnkdlfmjdckaa.Am
open Go
end Go.Proofs.Ytomnkdlfmjdckaa.Am
namespace Go.Proofs.Ytomnkdlfmjdckaa.Am.Sp
end Go.Proofs.Ytomnkdlfmjdckaa.Am.Sp
namespace Go.Proofs.Ytomnkdlfmjdckaa.Am.Sp
end Go.Proofs.Ytomnkdlfmjdckaa.Am.Sp
namespace Go.Proofs.Ytomnkdlfmjdckaa.Am.Sp
end Go.Proofs.Ytomnkdlfmjdckaa.Am.Sp
set_option linter.unusedVariables false
namespace Go.Proofs.Ytomnkdlfmjdckaa.Am.Sp
def rmin (a b : Rat) : Rat := if b < a then b else a
def rmax (a b : Rat) : Rat := if a < b then b else a
end Go.Proofs.Ytomnkdlfmjdckaa.Am.Sp
set_option linter.unusedVariables false
namespace Go.Proofs.Ytomnkdlfmjdckaa.Am.Sp
/-- size of a number -/
def Bd (N D : Nat) (q : Rat) : Prop := q.num.natAbs ≤ N ∧ q.den ≤ D
theorem Bd.neg {N D : Nat} {q : Rat} (h : Bd N D q) : Bd N D (-q) := by unfold Bd at *; rw [Rat.neg_num, Rat.neg_den, Int.natAbs_neg]; exact h
theorem bd_divInt {n d : Int} (hd : 0 < d) : Bd n.natAbs d.natAbs (Rat.divInt n d) := by
  have gp := gcd_pos (n := n) hd
  refine ⟨?_, ?_⟩
  · rw [dI_num hd]
    have h := abs_div n gp (Int.gcd_dvd_left n d)
    have h2 := quo_bd (a := (n.natAbs : Int)) (b := (Int.gcd n d : Int)) (by omega) gp
    generalize n / (Int.gcd n d : Int) = q at *
    split at h <;> omega
  · have h := dI_den (n := n) hd
    have h2 := quo_bd (a := d) (b := (Int.gcd n d : Int)) (by omega) gp
    omega
theorem Bd.mono {N D N' D' : Nat} {q : Rat} (h : Bd N D q) (h1 : N ≤ N') (h2 : D ≤ D') : Bd N' D' q := ⟨Nat.le_trans h.1 h1, Nat.le_trans h.2 h2⟩
theorem rat_self (q : Rat) : Rat.divInt q.num (q.den : Int) = q := by rw [Rat.divInt_ofNat, Rat.mkRat_self]
theorem Bd.mul {N D N' D' : Nat} {a b : Rat} (h : Bd N D a) (k : Bd N' D' b) : Bd (N * N') (D * D') (a * b) := by
  have e : a * b = Rat.divInt (a.num * b.num) ((a.den : Int) * b.den) := by
    conv => lhs; rw [← rat_self a, ← rat_self b, Rat.divInt_mul_divInt]
  rw [e]
  have pd : (0 : Int) < (a.den : Int) * b.den := Int.mul_pos (by have := a.den_pos; omega) (by have := b.den_pos; omega)
  refine (bd_divInt pd).mono ?_ ?_
  · rw [Int.natAbs_mul]; exact Nat.mul_le_mul h.1 k.1
  · rw [Int.natAbs_mul]; exact Nat.mul_le_mul (by simpa using h.2) (by simpa using k.2)
theorem Bd.add {N D N' D' : Nat} {a b : Rat} (h : Bd N D a) (k : Bd N' D' b) : Bd (N * D' + N' * D) (D * D') (a + b) := by
  have da := a.den_pos
  have db := b.den_pos
  have e : a + b = Rat.divInt (a.num * b.den + b.num * a.den) ((a.den : Int) * b.den) := by
    conv => lhs; rw [← rat_self a, ← rat_self b, Rat.divInt_add_divInt _ _ (by omega) (by omega)]
  rw [e]
  have pd : (0 : Int) < (a.den : Int) * b.den := Int.mul_pos (by omega) (by omega)
  refine (bd_divInt pd).mono ?_ ?_
  · refine Nat.le_trans (Int.natAbs_add_le _ _) (Nat.add_le_add ?_ ?_)
    · rw [Int.natAbs_mul]; exact Nat.mul_le_mul h.1 (by simpa using k.2)
    · rw [Int.natAbs_mul]; exact Nat.mul_le_mul k.1 (by simpa using h.2)
  · rw [Int.natAbs_mul]; exact Nat.mul_le_mul (by simpa using h.2) (by simpa using k.2)
theorem Bd.sub {N D N' D' : Nat} {a b : Rat} (h : Bd N D a) (k : Bd N' D' b) : Bd (N * D' + N' * D) (D * D') (a - b) := by
  rw [Rat.sub_eq_add_neg]; exact h.add k.neg
theorem Bd.min {N D N' D' : Nat} {a b : Rat} (h : Bd N D a) (k : Bd N' D' b) : Bd (Nat.max N N') (Nat.max D D') (rmin a b) := by
  unfold rmin; split
  · exact k.mono (Nat.le_max_right _ _) (Nat.le_max_right _ _)
  · exact h.mono (Nat.le_max_left _ _) (Nat.le_max_left _ _)
theorem Bd.max {N D N' D' : Nat} {a b : Rat} (h : Bd N D a) (k : Bd N' D' b) : Bd (Nat.max N N') (Nat.max D D') (rmax a b) := by
  unfold rmax; split
  · exact k.mono (Nat.le_max_right _ _) (Nat.le_max_right _ _)
  · exact h.mono (Nat.le_max_left _ _) (Nat.le_max_left _ _)
theorem Bd.int (n : Int) : Bd n.natAbs 1 (n : Rat) := by unfold Bd; rw [Rat.num_intCast, Rat.den_intCast]; exact ⟨Nat.le_refl _, Nat.le_refl _⟩
end Go.Proofs.Ytomnkdlfmjdckaa.Am.Sp
set_option linter.unusedVariables false
set_option linter.unusedSimpArgs false
namespace Go.Proofs.Ytomnkdlfmjdckaa.Am.Sp
theorem Bd.inv0 {N D : Nat} {q : Rat} (h : Bd N D q) (k : 0 < q.num) : Bd D N q⁻¹ := by
  obtain ⟨h1, h2⟩ := h
  rw [Rat.inv_def]; exact Bd.mono (bd_divInt k) (by omega) (by omega)
theorem Bd.inv {N D : Nat} {q : Rat} (h : Bd N D q) (hq : q ≠ 0) : Bd D N q⁻¹ := by
  have hn : q.num ≠ 0 := by rw [Ne, Rat.num_eq_zero]; exact hq
  rcases Int.lt_or_gt_of_ne hn with k | k
  · rw [show q⁻¹ = -((-q)⁻¹) by grind]
    exact (h.neg.inv0 (by rw [Rat.neg_num]; omega)).neg
  · exact h.inv0 k
end Go.Proofs.Ytomnkdlfmjdckaa.Am.Sp
set_option linter.unusedVariables false
set_option linter.unusedSimpArgs false
namespace Go.Proofs.Ytomnkdlfmjdckaa.Am.Sp
def sgS (a b c d : Int) : Bool := gd a b && (gd c d && decide (rv a b ≤ rv c d))
def sl (a b c d : Int) : Rat := if sgS a b c d = true then rv a b else ((0 : Int) : Rat)
def al4 (p q r s : Rat) : Bool := fitq p && (fitq q && (fitq r && fitq s))
def m4 (p q r s : Rat) : Rat := rmin (rmin (rmin p q) r) s
def e4 (p q r s : Rat) : Int := if al4 p q r s = true then 0 else 2
end Go.Proofs.Ytomnkdlfmjdckaa.Am.Sp
set_option linter.unusedVariables false
set_option linter.unusedSimpArgs false
namespace Go.Proofs.Ytomnkdlfmjdckaa.Am.Sp
def al2 (p q : Rat) : Bool := fitq p && fitq q
def e2 (p q : Rat) : Int := if al2 p q = true then 0 else 2
end Go.Proofs.Ytomnkdlfmjdckaa.Am.Sp
set_option linter.unusedVariables false
set_option linter.unusedSimpArgs false
namespace Go.Proofs.Ytomnkdlfmjdckaa.Am.Sp
end Go.Proofs.Ytomnkdlfmjdckaa.Am.Sp
set_option linter.unusedVariables false
set_option linter.unusedSimpArgs false
namespace Go.Proofs.Ytomnkdlfmjdckaa.Am.Sp
end Go.Proofs.Ytomnkdlfmjdckaa.Am.Sp

set_option linter.unusedVariables false
set_option linter.unusedSimpArgs false
namespace Go.Proofs.Ytomnkdlfmjdckaa.Am.Sp
/-- from + way * num / den -/
def alg (f w n d : Int) : Rat := ((f : Int) : Rat) + ((w * n : Int) : Rat) / ((d : Int) : Rat)
theorem alg_neg (f w n d : Int) : alg f w (0 - n) (0 - d) = alg f w n d := by
  unfold alg
  rw [Int.zero_sub, Int.zero_sub, Int.mul_neg, Rat.intCast_neg, Rat.intCast_neg]
  grind
theorem alg_eq {f w n d : Int} (hd : d ≠ 0) : alg f w n d * ((d : Int) : Rat) = ((f * d + w * n : Int) : Rat) := by
  unfold alg
  have h : ((d : Int) : Rat) ≠ 0 := by rw [Ne, Rat.intCast_eq_zero_iff]; omega
  rw [Rat.intCast_add, Rat.intCast_mul f d]
  grind
theorem alg_le {f w n d k : Int} (hd : 0 < d) : alg f w n d ≤ ((k : Int) : Rat) ↔ f * d + w * n ≤ k * d := by
  have a := alg_eq (f := f) (w := w) (n := n) (d := d) (by omega)
  have hd' : (0 : Rat) < ((d : Int) : Rat) := by rw [show (0 : Rat) = ((0 : Int) : Rat) by rfl, Rat.intCast_lt_intCast]; exact hd
  rw [← Rat.intCast_le_intCast, ← a, Rat.intCast_mul]
  constructor
  · intro h; exact Rat.mul_le_mul_of_nonneg_right h (Rat.le_of_lt hd')
  · intro h; exact Rat.le_of_mul_le_mul_right h hd'
theorem le_alg {f w n d k : Int} (hd : 0 < d) : ((k : Int) : Rat) ≤ alg f w n d ↔ k * d ≤ f * d + w * n := by
  have a := alg_eq (f := f) (w := w) (n := n) (d := d) (by omega)
  have hd' : (0 : Rat) < ((d : Int) : Rat) := by rw [show (0 : Rat) = ((0 : Int) : Rat) by rfl, Rat.intCast_lt_intCast]; exact hd
  rw [← Rat.intCast_le_intCast, ← a, Rat.intCast_mul]
  constructor
  · intro h; exact Rat.mul_le_mul_of_nonneg_right h (Rat.le_of_lt hd')
  · intro h; exact Rat.le_of_mul_le_mul_right h hd'
end Go.Proofs.Ytomnkdlfmjdckaa.Am.Sp
set_option linter.unusedVariables false
set_option linter.unusedSimpArgs false
namespace Go.Proofs.Ytomnkdlfmjdckaa.Am.Sp
/-- the point where two segments cross -/
def cpx (ax ay bx b_y cx cy dx dy : Int) : Rat := alg ax (bx - ax) (crs cx cy dx dy ax ay) (crs cx cy dx dy ax ay - crs cx cy dx dy bx b_y)
def cpy (ax ay bx b_y cx cy dx dy : Int) : Rat := alg ay (b_y - ay) (crs cx cy dx dy ax ay) (crs cx cy dx dy ax ay - crs cx cy dx dy bx b_y)
theorem between {p q n m : Int} (h : (n < 0 ∧ 0 < m) ∨ (0 < n ∧ m < 0)) {lo hi : Int} (h0 : lo ≤ p) (h1 : lo ≤ q) (h2 : p ≤ hi) (h3 : q ≤ hi) :
    ((lo : Int) : Rat) ≤ alg p (q - p) n (n - m) ∧ alg p (q - p) n (n - m) ≤ ((hi : Int) : Rat) := by
  have main : ∀ n m : Int, 0 < n → m < 0 → ((lo : Int) : Rat) ≤ alg p (q - p) n (n - m) ∧ alg p (q - p) n (n - m) ≤ ((hi : Int) : Rat) := by
    intro n m a b
    rw [le_alg (by omega), alg_le (by omega)]
    have e : p * (n - m) + (q - p) * n = p * (-m) + q * n := by grind
    rw [e]
    have a1 := Int.mul_le_mul_of_nonneg_right h0 (show 0 ≤ -m by omega)
    have a2 := Int.mul_le_mul_of_nonneg_right h1 (show 0 ≤ n by omega)
    have a3 := Int.mul_le_mul_of_nonneg_right h2 (show 0 ≤ -m by omega)
    have a4 := Int.mul_le_mul_of_nonneg_right h3 (show 0 ≤ n by omega)
    have e2 : lo * (n - m) = lo * (-m) + lo * n := by grind
    have e3 : hi * (n - m) = hi * (-m) + hi * n := by grind
    rw [e2, e3]
    omega
  rcases h with ⟨a, b⟩ | ⟨a, b⟩
  · have := main (0 - n) (0 - m) (by omega) (by omega)
    rw [show 0 - n - (0 - m) = 0 - (n - m) by omega, alg_neg] at this
    exact this
  · exact main n m a b
def sqn (px py ax ay bx b_y : Int) : Int := if dot ax ay bx b_y px py ≤ 0 then dot ax ay px py px py else if dot ax ay bx b_y px py ≥ dot ax ay bx b_y bx b_y then dot bx b_y px py px py else crs ax ay bx b_y px py * crs ax ay bx b_y px py
def sqd (px py ax ay bx b_y : Int) : Int := if dot ax ay bx b_y px py ≤ 0 then 1 else if dot ax ay bx b_y px py ≥ dot ax ay bx b_y bx b_y then 1 else dot ax ay bx b_y bx b_y
def wthn (px py ax ay bx b_y k : Int) : Bool := decide (0 ≤ k) && decide (sqn px py ax ay bx b_y ≤ mn k 4194304 * mn k 4194304 * sqd px py ax ay bx b_y)
end Go.Proofs.Ytomnkdlfmjdckaa.Am.Sp

set_option linter.unusedVariables false
set_option linter.unusedSimpArgs false
namespace Go.Proofs.Ytomnkdlfmjdckaa.Am.Sp
theorem getD_apl {β : Type} {l l' : List β} {i : Nat} {x : β} (h : i < l.length) : (l ++ l').getD i x = l.getD i x := by
  rw [List.getD_eq_getElem?_getD, List.getD_eq_getElem?_getD, List.getElem?_append_left h]
theorem getD_apr {β : Type} {l l' : List β} {i : Nat} {x : β} (h : l.length ≤ i) : (l ++ l').getD i x = l'.getD (i - l.length) x := by
  rw [List.getD_eq_getElem?_getD, List.getD_eq_getElem?_getD, List.getElem?_append_right h]
section
variable {α : Type} {W : α → α → α → Bool} {d : α → α → α → Int} {z : α}
/-- the first of those points between two that are not near, and farthest -/
def Best (W : α → α → α → Bool) (d : α → α → α → Int) (z : α) (l : List α) (f t m : Nat) : Prop :=
  (f < m ∧ m < t) ∧ W (l.getD m z) (l.getD f z) (l.getD t z) = false ∧
    ∀ i, f < i → i < t → W (l.getD i z) (l.getD f z) (l.getD t z) = false → d (l.getD i z) (l.getD f z) (l.getD t z) ≤ d (l.getD m z) (l.getD f z) (l.getD t z) ∧ (i < m → d (l.getD i z) (l.getD f z) (l.getD t z) < d (l.getD m z) (l.getD f z) (l.getD t z))
inductive Thin (W : α → α → α → Bool) (d : α → α → α → Int) (z : α) (l : List α) : Nat → Nat → List Nat → Prop
  | nil {f t : Nat} (h : f < t) (hn : ∀ i, f < i → i < t → W (l.getD i z) (l.getD f z) (l.getD t z) = true) : Thin W d z l f t []
  | cons {f m t : Nat} {J K : List Nat} (h : Best W d z l f t m) (h1 : Thin W d z l f m J) (h2 : Thin W d z l m t K) : Thin W d z l f t (J ++ m :: K)
theorem Best.uniq {l : List α} {f t m m' : Nat} (h : Best W d z l f t m) (h' : Best W d z l f t m') : m = m' := by
  have a := h.2.2 m' h'.1.1 h'.1.2 h'.2.1
  have b := h'.2.2 m h.1.1 h.1.2 h.2.1
  rcases Nat.lt_trichotomy m m' with c | c | c
  · have := b.2 c; omega
  · exact c
  · have := a.2 c; omega
theorem Thin.lt {l : List α} {f t : Nat} {J : List Nat} (h : Thin W d z l f t J) : f < t := by
  cases h with
  | nil h _ => exact h
  | cons h _ _ => have := h.1; omega
/-- what is kept is strictly between, and rises -/
theorem Thin.rise {l : List α} {f t : Nat} {J : List Nat} (h : Thin W d z l f t J) : (∀ j ∈ J, f < j ∧ j < t) ∧ J.Pairwise (· < ·) := by
  induction h with
  | nil h hn => exact ⟨by simp, .nil⟩
  | @cons f m t J K h h1 h2 i1 i2 =>
    have a := h.1
    refine ⟨fun j hj => ?_, ?_⟩
    · rcases List.mem_append.1 hj with q | q
      · have := i1.1 j q; omega
      · rcases List.mem_cons.1 q with rfl | q
        · exact a
        · have := i2.1 j q; omega
    · refine List.pairwise_append.2 ⟨i1.2, List.pairwise_cons.2 ⟨fun j q => (i2.1 j q).1, i2.2⟩, fun x hx y hy => ?_⟩
      have := i1.1 x hx
      rcases List.mem_cons.1 hy with rfl | q
      · omega
      · have := i2.1 y q; omega
/-- every point between is kept, or near the edge over it -/
theorem Thin.near {l : List α} {f t : Nat} {J : List Nat} (h : Thin W d z l f t J) : ∀ i, f < i → i < t → i ∈ J ∨ ∃ k, k ≤ J.length ∧ W (l.getD i z) (l.getD ((f :: (J ++ [t])).getD k 0) z) (l.getD ((f :: (J ++ [t])).getD (k + 1) 0) z) = true := by
  induction h with
  | nil h hn => intro i a b; exact .inr ⟨0, Nat.le_refl _, hn i a b⟩
  | @cons f m t J K h h1 h2 i1 i2 =>
    intro i a b
    rcases Nat.lt_trichotomy i m with c | c | c
    · rcases i1 i a c with q | ⟨k, hk, q⟩
      · exact .inl (List.mem_append.2 (.inl q))
      · refine .inr ⟨k, by simp; omega, ?_⟩
        have e1 : (f :: (J ++ m :: K ++ [t])).getD k 0 = (f :: (J ++ [m])).getD k 0 := by
          cases k with
          | zero => rfl
          | succ k => simp only [List.getD_cons_succ, List.append_assoc]; rw [getD_apl (by omega), getD_apl (by omega)]
        have e2 : (f :: (J ++ m :: K ++ [t])).getD (k + 1) 0 = (f :: (J ++ [m])).getD (k + 1) 0 := by
          simp only [List.getD_cons_succ, List.append_assoc]
          rcases Nat.lt_or_ge k J.length with g | g
          · rw [getD_apl g, getD_apl g]
          · obtain rfl : k = J.length := by omega
            rw [getD_apr (l := J) (by omega), getD_apr (l := J) (by omega)]; simp
        rw [e1, e2]; exact q
    · exact .inl (by subst c; simp)
    · rcases i2 i c b with q | ⟨k, hk, q⟩
      · exact .inl (List.mem_append.2 (.inr (List.mem_cons_of_mem _ q)))
      · refine .inr ⟨J.length + 1 + k, by simp; omega, ?_⟩
        have e : ∀ k, (f :: (J ++ m :: K ++ [t])).getD (J.length + 1 + k) 0 = (m :: (K ++ [t])).getD k 0 := by
          intro k
          rw [show J.length + 1 + k = (J.length + k) + 1 by omega, List.getD_cons_succ, List.append_assoc, getD_apr (by omega), show J.length + k - J.length = k by omega]; simp
        rw [e k, show J.length + 1 + k + 1 = J.length + 1 + (k + 1) by omega, e (k + 1)]; exact q
theorem Thin.uniq {l : List α} {f t : Nat} {J : List Nat} (h : Thin W d z l f t J) : ∀ {K : List Nat}, Thin W d z l f t K → J = K := by
  induction h with
  | nil h hn =>
    intro K k
    cases k with
    | nil => rfl
    | cons b _ _ => have := hn _ b.1.1 b.1.2; rw [b.2.1] at this; cases this
  | cons h h1 h2 i1 i2 =>
    intro K k
    cases k with
    | nil _ hn => have := hn _ h.1.1 h.1.2; rw [h.2.1] at this; cases this
    | cons b k1 k2 => have e := h.uniq b; subst e; rw [i1 k1, i2 k2]
end
end Go.Proofs.Ytomnkdlfmjdckaa.Am.Sp
set_option linter.unusedVariables false
set_option linter.unusedSimpArgs false
namespace Go.Proofs.Ytomnkdlfmjdckaa.Am.Sp
def dq (px py ax ay bx b_y : Int) : Int := sqn px py ax ay bx b_y * Int.tdiv (mx 1 (dot ax ay bx b_y bx b_y)) (sqd px py ax ay bx b_y)
def wtP (tol : Int) (p a b : Int × Int) : Bool := wthn p.1 p.2 a.1 a.2 b.1 b.2 (mx tol 0)
def dqP (p a b : Int × Int) : Int := dq p.1 p.2 a.1 a.2 b.1 b.2
def ThinP (ps : List (Int × Int)) (tol : Int) (f t : Nat) (J : List Nat) : Prop := Thin (wtP tol) dqP (0, 0) ps f t J
section
variable {ps : List (Int × Int)} {tol : Int} {f t e b : Nat}
end
def setJ (kp : List Bool) (J : List Nat) : List Bool := (List.range kp.length).map (fun i => kp.getD i false || decide (i ∈ J))
theorem setJ_get {kp : List Bool} {J : List Nat} {i : Nat} (h : i < kp.length) : (setJ kp J).getD i false = (kp.getD i false || decide (i ∈ J)) := by
  rw [List.getD_eq_getElem?_getD, setJ, List.getElem?_map, List.getElem?_range h]; rfl
/-- the points of a line that are kept, of the first n -/
def slF (ps : List (Int × Int)) (kp : List Bool) : Nat → List (Int × Int)
  | 0 => []
  | n + 1 => if kp.getD n false = true then slF ps kp n ++ [ps.getD n (0, 0)] else slF ps kp n
theorem slF_eq (ps kp n) : slF ps kp n = ((List.range n).filter (fun i => kp.getD i false)).map (fun i => ps.getD i (0, 0)) := by
  induction n with
  | zero => rfl
  | succ n ih =>
    rw [slF, List.range_succ, List.filter_append, List.map_append, ← ih]
    by_cases h : kp.getD n false = true
    · rw [if_pos h, List.filter_cons, if_pos h]; rfl
    · rw [if_neg h, List.filter_cons, if_neg h]; simp
theorem filter_rise (n : Nat) : ∀ (s : Nat) (L : List Nat), (∀ j ∈ L, s ≤ j ∧ j < s + n) → L.Pairwise (· < ·) → (List.range' s n).filter (fun i => decide (i ∈ L)) = L := by
  induction n with
  | zero => intro s L h _; cases L with
    | nil => rfl
    | cons a r => have := h a (by simp); omega
  | succ n ih =>
    intro s L h hp
    rw [List.range'_succ]
    by_cases hs : s ∈ L
    · rw [List.filter_cons, if_pos (by simpa using hs)]
      cases L with
      | nil => simp at hs
      | cons a r =>
        have hr := List.pairwise_cons.1 hp
        have ha : a = s := by
          rcases List.mem_cons.1 hs with q | q
          · exact q.symm
          · have := hr.1 s q; have := h a (by simp); omega
        subst ha
        have := ih (a + 1) r (fun j hj => by have := hr.1 j hj; have := h j (List.mem_cons_of_mem _ hj); omega) hr.2
        congr 1
        refine Eq.trans (List.filter_congr (fun x hx => ?_)) this
        have := List.mem_range'_1.1 hx
        simp only [List.mem_cons]
        have : x ≠ a := by omega
        simp [this]
    · rw [List.filter_cons, if_neg (by simpa using hs)]
      refine ih (s + 1) L (fun j hj => ?_) hp
      have := h j hj
      have : j ≠ s := fun c => hs (c ▸ hj)
      omega
/-- what is kept at first: both ends -/
def kp0 (n : Nat) : List Bool := ((List.replicate n false).set 0 true).set (n - 1) true
theorem kp0_len (n) : (kp0 n).length = n := by simp [kp0]
theorem kp0_get {n i : Nat} (h : i < n) : (kp0 n).getD i false = (decide (i = 0) || decide (i = n - 1)) := by
  unfold kp0
  rw [List.getD_eq_getElem?_getD, List.getElem?_set, List.getElem?_set]
  simp only [List.length_set, List.length_replicate]
  by_cases c : n - 1 = i
  · rw [if_pos c, if_pos (by omega)]; simp [c]
  · rw [if_neg c]
    by_cases c2 : 0 = i
    · rw [if_pos c2, if_pos (by omega)]; simp [← c2]
    · rw [if_neg c2, List.getElem?_replicate, if_pos h]; simp [Ne.symm c, Ne.symm c2]
def ends (n : Nat) (J : List Nat) : List Nat := 0 :: (J ++ [n - 1])
theorem ends_rise {n : Nat} {J : List Nat} (hn : 2 ≤ n) (h : (∀ j ∈ J, 0 < j ∧ j < n - 1) ∧ J.Pairwise (· < ·)) : (∀ j ∈ ends n J, 0 ≤ j ∧ j < 0 + n) ∧ (ends n J).Pairwise (· < ·) := by
  unfold ends
  refine ⟨fun j hj => ?_, ?_⟩
  · rcases List.mem_cons.1 hj with q | q
    · omega
    · rcases List.mem_append.1 q with q | q
      · have := h.1 j q; omega
      · have := List.mem_singleton.1 q; omega
  · refine List.pairwise_cons.2 ⟨fun x hx => ?_, List.pairwise_append.2 ⟨h.2, List.pairwise_singleton _ _, fun x hx y hy => ?_⟩⟩
    · rcases List.mem_append.1 hx with q | q
      · exact (h.1 x q).1
      · have := List.mem_singleton.1 q; omega
    · have := List.mem_singleton.1 hy; have := h.1 x hx; omega
theorem sl_line {ps : List (Int × Int)} {J : List Nat} {n : Nat} (hn : 2 ≤ n) (h : (∀ j ∈ J, 0 < j ∧ j < n - 1) ∧ J.Pairwise (· < ·)) : slF ps (setJ (kp0 n) J) n = (ends n J).map (fun i => ps.getD i (0, 0)) := by
  have R := ends_rise hn h
  rw [slF_eq]; congr 1
  refine Eq.trans ?_ (filter_rise n 0 (ends n J) R.1 R.2)
  rw [List.range_eq_range']
  refine List.filter_congr (fun x hx => ?_)
  have := List.mem_range'_1.1 hx
  rw [setJ_get (by rw [kp0_len]; omega), kp0_get (by omega)]
  unfold ends
  simp only [List.mem_cons, List.mem_append, List.not_mem_nil, or_false]
  by_cases c1 : x = 0 <;> by_cases c2 : x ∈ J <;> by_cases c3 : x = n - 1 <;> simp [c1, c2, c3]
/-- a line and what is left of it -/
def Lined (tol : Int) (ps ys : List (Int × Int)) : Prop := (ps.length < 3 ∧ ys = ps) ∨ (3 ≤ ps.length ∧ ∃ J, ThinP ps tol 0 (ps.length - 1) J ∧ ys = (ends ps.length J).map (fun i => ps.getD i (0, 0)))
end Go.Proofs.Ytomnkdlfmjdckaa.Am.Sp
set_option linter.unusedVariables false
set_option linter.unusedSimpArgs false
namespace Go.Proofs.Ytomnkdlfmjdckaa.Am.Sp
theorem mem_getD {ps : List (Int × Int)} {i : Nat} (h : i < ps.length) : ps.getD i (0, 0) ∈ ps := by
  rw [List.getD_eq_getElem?_getD, List.getElem?_eq_getElem h]; exact List.getElem_mem h
theorem few_sub {m : Int} {ps ys : List (Int × Int)} (hm : 0 ≤ m) (h : Few m ps) (hs : ∀ q ∈ ys, q ∈ ps) : Few m ys := few_of hm (fun q hq => few_mem h (hs q hq))
def lmP (p : Int × Int) : Int × Int := (lim 1048576 p.1, lim 1048576 p.2)
theorem few_lim (ps : List (Int × Int)) : Few 1048576 (ps.map lmP) := by
  refine few_of (by decide) (fun q hq => ?_)
  obtain ⟨p, _, rfl⟩ := List.mem_map.1 hq
  exact ⟨lim_bd (by decide) _, lim_bd (by decide) _⟩
theorem lim_few {m : Int} {ps : List (Int × Int)} (hm : m ≤ 1048576) (h : Few m ps) : ps.map lmP = ps := by
  refine Eq.trans (List.map_congr_left (fun q hq => ?_)) (List.map_id _)
  have := few_mem h hq
  show (lim 1048576 q.1, lim 1048576 q.2) = q
  rw [lim_id (by omega) (by omega), lim_id (by omega) (by omega)]
theorem Lined.sl {tol : Int} {qs ys : List (Int × Int)} {J : List Nat} (h : 3 ≤ qs.length) (hJ : ThinP qs tol 0 (qs.length - 1) J) (e : ys = (ends qs.length J).map (fun i => qs.getD i (0, 0))) : slF qs (setJ (kp0 qs.length) J) qs.length = ys := by
  rw [e]; exact sl_line (by omega) (Thin.rise hJ)
end Go.Proofs.Ytomnkdlfmjdckaa.Am.Sp
set_option linter.unusedVariables false
set_option linter.unusedSimpArgs false
namespace Go.Proofs.Ytomnkdlfmjdckaa.Am.Sp
end Go.Proofs.Ytomnkdlfmjdckaa.Am.Sp
set_option linter.unusedVariables false
set_option linter.unusedSimpArgs false
namespace Go.Proofs.Ytomnkdlfmjdckaa.Am.Sp
section
variable {ps : List (Int × Int)} {tol : Int} {f t i b : Nat}
end
inductive Que (ps : List (Int × Int)) (tol : Int) : List (Int × Int) → List Nat → Prop
  | nil : Que ps tol [] []
  | cons {f t : Nat} {J M : List Nat} {td : List (Int × Int)} (h : ThinP ps tol f t J) (ht : t < ps.length) (q : Que ps tol td M) : Que ps tol (((f : Int), (t : Int)) :: td) (J ++ M)
/-- the state of the document's loop: what is kept, what is to be looked at -/
def Stt (ps : List (Int × Int)) (tol : Int) (L : List Nat) (ks : List Nat) (td : List (Int × Int)) : Prop := ∃ M, Que ps tol td M ∧ (ks ++ M).Perm L
theorem Stt.front {ps : List (Int × Int)} {tol : Int} {L ks : List Nat} {td : List (Int × Int)} (h : Stt ps tol L ks td) (hn : 1 ≤ td.length) : ∃ (f t : Nat) (r : List (Int × Int)) (J : List Nat), td = ((f : Int), (t : Int)) :: r ∧ f < t ∧ t < ps.length ∧ ThinP ps tol f t J ∧ ∃ M, Que ps tol r M ∧ (ks ++ (J ++ M)).Perm L := by
  obtain ⟨M, q, hp⟩ := h
  cases q with
  | nil => simp at hn
  | cons h ht q => exact ⟨_, _, _, _, rfl, Thin.lt h, ht, h, _, q, hp⟩
end Go.Proofs.Ytomnkdlfmjdckaa.Am.Sp

set_option linter.unusedVariables false
set_option linter.unusedSimpArgs false
namespace Go.Proofs.Ytomnkdlfmjdckaa.Am.Sp
open Go
end Go.Proofs.Ytomnkdlfmjdckaa.Am.Sp
set_option linter.unusedVariables false
set_option linter.unusedSimpArgs false
namespace Go.Proofs.Ytomnkdlfmjdckaa.Am.Sp
open Go
def dsq (p q : Int × Int) : Int := dot p.1 p.2 q.1 q.2 q.1 q.2
section
variable {h : List (Int × Int)} {x y ax ay : Int} {k : Nat}
end
theorem crP_flip (p a q : Int × Int) : crP p q a = -crP p a q := by unfold crP crs; grind
/-- an index at which a function is least -/
theorem least_at (g : Nat → Int) : ∀ n : Nat, 0 < n → ∃ m, m < n ∧ ∀ i, i < n → g m ≤ g i
  | 0, h => by omega
  | 1, _ => ⟨0, by omega, fun i hi => by rw [show i = 0 by omega]; exact Int.le_refl _⟩
  | n + 2, _ => by
    obtain ⟨m, h1, h2⟩ := least_at g (n + 1) (by omega)
    by_cases c : g m ≤ g (n + 1)
    · exact ⟨m, by omega, fun i hi => by rcases Nat.lt_or_ge i (n + 1) with k | k; exact h2 i k; rw [show i = n + 1 by omega]; exact c⟩
    · exact ⟨n + 1, by omega, fun i hi => by rcases Nat.lt_or_ge i (n + 1) with k | k; have := h2 i k; omega; rw [show i = n + 1 by omega]; exact Int.le_refl _⟩
theorem hasL_ex {h : List (Int × Int)} {x y : Int} : ∀ (k i : Nat), i + k = h.length → hasL h x y i = false → ∃ j, j < h.length ∧ crs (h.getD j (0, 0)).1 (h.getD j (0, 0)).2 (h.getD ((j + 1) % h.length) (0, 0)).1 (h.getD ((j + 1) % h.length) (0, 0)).2 x y < 0
  | 0, i, e, hf => by rw [hasL_end (by omega)] at hf; cases hf
  | k + 1, i, e, hf => by
    rw [hasL, if_pos (by omega)] at hf
    split at hf
    · rename_i c; exact ⟨i, by omega, c⟩
    · exact hasL_ex k (i + 1) (by omega) hf
theorem hull_one {ps : List (Int × Int)} (e : (hullF ps).length = 1) {q : Int × Int} (hq : q ∈ ps) : q = (hullF ps).getD 0 (0, 0) := by
  have hm := srd_mem.2 hq
  rcases Nat.lt_or_ge (srd ps).length 2 with g | g
  · rw [hullF_one g] at *
    match hs : srd ps, hm, e with
    | [a], hm, _ => exact List.mem_singleton.1 hm
  · obtain ⟨w, w2⟩ := hul_srd g
    have := w.two w2
    rw [hullF_two g, ring2_len] at e; omega
theorem hull_two {ps : List (Int × Int)} (e2 : (hullF ps).length = 2) {p : Int × Int} (hp : p ∈ ps) : lxP ((hullF ps).getD 0 (0, 0)) ((hullF ps).getD 1 (0, 0)) ∧ crP ((hullF ps).getD 0 (0, 0)) ((hullF ps).getD 1 (0, 0)) p = 0 ∧
    (p = (hullF ps).getD 0 (0, 0) ∨ lxP ((hullF ps).getD 0 (0, 0)) p) ∧ (p = (hullF ps).getD 1 (0, 0) ∨ lxP p ((hullF ps).getD 1 (0, 0))) := by
  have c : 2 ≤ (hullF ps).length := by omega
  have g : 2 ≤ (srd ps).length := by
    rcases Nat.lt_or_ge (srd ps).length 2 with g | g
    · rw [hullF_one g] at c; omega
    · exact g
  obtain ⟨q, q2⟩ := hul_srd g
  have a0 := hull_edge (i := 0) c (by omega) hp
  have a1 := hull_edge (i := 1) c (by omega) hp
  rw [e2] at a0 a1
  simp only [Nat.zero_add, Nat.reduceMod, Nat.reduceAdd] at a0 a1
  have ee : crP ((hullF ps).getD 1 (0, 0)) ((hullF ps).getD 0 (0, 0)) p = -crP ((hullF ps).getD 0 (0, 0)) ((hullF ps).getD 1 (0, 0)) p := by unfold crP crs; grind
  have u2 := q.two q2
  have hn : ring2 (stk (srd ps) (srd ps).length) (stk (srd ps).reverse (srd ps).reverse.length) = hullF ps := (hullF_two g).symm
  have hn2 := ring2_len (L := stk (srd ps) (srd ps).length) (U := stk (srd ps).reverse (srd ps).reverse.length)
  rw [hn] at hn2
  have r0 := q.ring_at (i := 0) (by rw [hn]; omega)
  have r1 := q.ring_at (i := 1) (by rw [hn]; omega)
  rw [hn] at r0 r1
  unfold cnr at r0 r1
  rw [if_pos (by omega), Nat.sub_zero] at r0
  rw [if_pos (by omega), show (stk (srd ps) (srd ps).length).length - 1 - 1 = 0 by omega] at r1
  refine ⟨?_, by omega, ?_, ?_⟩
  · rw [r0, r1, show (stk (srd ps) (srd ps).length).length - 1 = 0 + 1 by omega]; exact q.low.ds.at (by omega)
  · rw [r0]; exact q.bot.2 p (srd_mem.2 hp)
  · rw [r1]; exact q.top.2 p (srd_mem.2 hp)
end Go.Proofs.Ytomnkdlfmjdckaa.Am.Sp
set_option linter.unusedVariables false
set_option linter.unusedSimpArgs false
namespace Go.Proofs.Ytomnkdlfmjdckaa.Am.Sp
open Go
theorem stk_take (l : List (Int × Int)) : ∀ i, i ≤ l.length → stk l i = stk (l.take i) i
  | i, hi => by
    have key : ∀ k, k ≤ i → stk l k = stk (l.take i) k := by
      intro k
      induction k with
      | zero => intro _; rfl
      | succ k ih =>
        intro hk
        have e : (l.take i).getD k (0, 0) = l.getD k (0, 0) := by
          rw [List.getD_eq_getElem?_getD, List.getElem?_take, if_pos (by omega), List.getD_eq_getElem?_getD]
        rw [stk, stk, ih (by omega), e]
    exact key i (Nat.le_refl _)
theorem nodup_sub_len : ∀ {l m : List (Int × Int)}, l.Nodup → (∀ p ∈ l, p ∈ m) → l.length ≤ m.length
  | [], m, _, _ => Nat.zero_le _
  | a :: r, m, h, hs => by
    have hn := List.nodup_cons.1 h
    have ha := hs a (by simp)
    have := nodup_sub_len (l := r) (m := m.erase a) hn.2 (fun p hp => (List.mem_erase_of_ne (fun (e : p = a) => hn.1 (by rw [← e]; exact hp))).2 (hs p (List.mem_cons_of_mem _ hp)))
    rw [List.length_erase_of_mem ha] at this
    have : 1 ≤ m.length := List.length_pos_of_mem ha
    simp only [List.length_cons]; omega
theorem Ds.pair : ∀ {C : List (Int × Int)}, Ds C → C.Pairwise (fun a b => lxP b a)
  | [], _ => .nil
  | [a], _ => List.pairwise_singleton _ _
  | b :: a :: r, h => by
    have ih := Ds.pair h.2
    refine List.pairwise_cons.2 ⟨fun x hx => ?_, ih⟩
    rcases List.mem_cons.1 hx with k | k
    · subst k; exact h.1
    · exact ((List.pairwise_cons.1 ih).1 x k).trans h.1
theorem Ds.nodup {C : List (Int × Int)} (h : Ds C) : C.Nodup := h.pair.imp (fun {a b} k e => by subst e; exact k.irr)
/-- the upper chain of the last i points -/
theorem up_chn {s : List (Int × Int)} (h : s.Pairwise lxP) {i : Nat} (h1 : 1 ≤ i) (hi : i ≤ s.length) : Chn ((s.reverse.take i).map negP) ((stk s.reverse i).map negP) := by
  have hl : (s.reverse.take i).length = i := by rw [List.length_take, List.length_reverse]; omega
  rw [stk_take s.reverse i (by rw [List.length_reverse]; exact hi)]
  have e2 : stk (s.reverse.take i) i = chS [] (s.reverse.take i) := by
    have := stk_all (s.reverse.take i)
    rw [hl] at this; exact this
  rw [e2]
  have hr : ((s.reverse.take i).map negP).Pairwise lxP := by
    rw [List.pairwise_map]
    exact ((List.pairwise_reverse.2 (h.imp (fun k => lxP_neg.2 k))).sublist (List.take_sublist _ _))
  cases hx : s.reverse.take i with
  | nil => rw [hx] at hl; simp at hl; omega
  | cons b r =>
    rw [hx, List.map_cons] at hr
    have := chn_of hr
    rw [show chS ([] : List (Int × Int)) (negP b :: r.map negP) = (chS [] (b :: r)).map negP from chS_map (b :: r) []] at this
    exact this
/-- a corner of the lower chain is none of the upper chain of the points behind it, but for its ends -/
theorem low_up {s : List (Int × Int)} (h : s.Pairwise lxP) (h2 : 1 ≤ s.length) {i j : Nat} (h1 : 1 ≤ i) (hi : i ≤ s.length) (hj : j + 2 < (stk s.reverse i).length) : (stk s.reverse i).getD (j + 1) (0, 0) ∉ stk s s.length := by
  intro hm
  have cu := up_chn h h1 hi
  have cl := (hul_of h h2).low
  have hmem : ∀ q, q < (stk s.reverse i).length → (stk s.reverse i).getD q (0, 0) ∈ s := fun q hq => by
    have := cu.sub (negP ((stk s.reverse i).getD q (0, 0))) (List.mem_map.2 ⟨_, mem_getD hq, rfl⟩)
    obtain ⟨z, hz, e⟩ := List.mem_map.1 this
    rw [← negP_inj e]
    exact List.mem_reverse.1 (List.mem_of_mem_take hz)
  have t := cu.tr.at (j := j) (by simpa using hj)
  have d1 := cu.ds.at (j := j) (by simp; omega)
  have d2 := cu.ds.at (j := j + 1) (by simp; omega)
  rw [getD_map_neg, getD_map_neg, getD_map_neg, crP_neg] at t
  rw [getD_map_neg, getD_map_neg, lxP_neg] at d1 d2
  -- a < p < c, p above
  have ma := hmem j (by omega)
  have mc := hmem (j + 2) (by omega)
  generalize (stk s.reverse i).getD (j + 2) (0, 0) = c at *
  generalize (stk s.reverse i).getD (j + 1) (0, 0) = p at *
  generalize (stk s.reverse i).getD j (0, 0) = a at *
  obtain ⟨k, hk, e⟩ := List.mem_iff_getElem.1 hm
  have hkp : (stk s s.length).getD k (0, 0) = p := by rw [getD_lt hk, e]
  have hb := (hul_of h h2).bot
  have hk1 : k + 1 < (stk s s.length).length := by
    rcases Nat.lt_or_ge (k + 1) (stk s s.length).length with g | g
    · exact g
    · have ek : k = (stk s s.length).length - 1 := by omega
      have := hb.2 a ma
      rw [← ek, hkp] at this
      rcases this with q | q
      · subst q; exact d1.irr.elim
      · exact (d1.trans q).irr.elim
  have l1 := cl.lf.at hk1 a ma
  have l2 := cl.lf.at hk1 c mc
  have dd := cl.ds.at hk1
  rw [hkp] at l1 l2 dd
  have := left_behind dd d2 (.inl d1) l2 l1
  have e2 : crP c p a = -crP p c a := by unfold crP crs; grind
  omega
theorem both_len {s : List (Int × Int)} (h : s.Pairwise lxP) (h2 : 1 ≤ s.length) {i : Nat} (hi : i ≤ s.length) : (chO s).length + (stk s.reverse i).length ≤ s.length + 1 := by
  have hl := chO_len (l := s)
  have hp := (hul_of h h2).posL
  have hL : (stk s s.length).length ≤ s.length := stk_len s s.length
  rcases Nat.lt_or_ge (stk s.reverse i).length 3 with c | c
  · omega
  · have h1 : 1 ≤ i := by
      rcases Nat.eq_zero_or_pos i with z | z
      · subst z; simp [stk] at c
      · exact z
    have cu := up_chn h h1 hi
    have nu : (stk s.reverse i).Nodup := by
      have := cu.ds.nodup
      exact (List.pairwise_map.1 this).imp (fun {x y} k e => k (congrArg negP e))
    have nl := (hul_of h h2).low.ds.nodup
    -- the inner points of the upper chain, and the lower chain
    have key := nodup_sub_len (l := ((stk s.reverse i).drop 1).dropLast ++ stk s s.length) (m := s) ?_ ?_
    · rw [List.length_append, List.length_dropLast, List.length_drop] at key
      omega
    · refine List.nodup_append.2 ⟨?_, nl, fun a ha b hb e => ?_⟩
      · exact ((nu.sublist (List.drop_sublist _ _)).sublist (List.dropLast_sublist _))
      · subst e
        obtain ⟨k, hk, e⟩ := List.mem_iff_getElem.1 ha
        rw [List.length_dropLast, List.length_drop] at hk
        rw [List.getElem_dropLast, List.getElem_drop] at e
        refine low_up h h2 h1 hi (j := k) (by omega) ?_
        rw [getD_lt (by omega)]
        have : (stk s.reverse i)[k + 1]'(by omega) = a := by rw [← e]; congr 1; omega
        rw [this]; exact hb
    · intro p hp'
      rcases List.mem_append.1 hp' with q | q
      · have hm := List.mem_of_mem_drop (List.dropLast_subset _ q)
        exact List.mem_reverse.1 (stk_mem (by rw [List.length_reverse]; exact hi) hm)
      · exact stk_mem (Nat.le_refl _) q
end Go.Proofs.Ytomnkdlfmjdckaa.Am.Sp
