import Derived.Test.YtngmegnaohmapaaDoorSq1
set_option linter.unusedVariables false
set_option linter.unusedSimpArgs false
namespace Go.Proofs.YtngmegnaohmapaaDoor.Am.Sp
/-! Convex hulls: chains over points in their order -/
def crP (a b c : Int × Int) : Int := crs a.1 a.2 b.1 b.2 c.1 c.2
/-- b lies behind a in the order of points -/
def lxP (a b : Int × Int) : Prop := a.1 < b.1 ∨ (a.1 = b.1 ∧ a.2 < b.2)
theorem lxP.trans {a b c : Int × Int} (h : lxP a b) (k : lxP b c) : lxP a c := by unfold lxP at *; omega
theorem lxP.irr {a : Int × Int} (h : lxP a a) : False := by unfold lxP at h; omega
theorem lxP.tri (a b : Int × Int) : lxP a b ∨ a = b ∨ lxP b a := by
  unfold lxP
  rcases Int.lt_trichotomy a.1 b.1 with h | h | h
  · exact .inl (.inl h)
  · rcases Int.lt_trichotomy a.2 b.2 with k | k | k
    · exact .inl (.inr ⟨h, k⟩)
    · exact .inr (.inl (Prod.ext h k))
    · exact .inr (.inr (.inr ⟨h.symm, k⟩))
  · exact .inr (.inr (.inl h))
theorem mulnnH {a b : Int} (ha : 0 ≤ a) (hb : 0 ≤ b) : 0 ≤ a * b := Int.mul_nonneg ha hb
/-- three vectors: u and v ahead, w not; v and w to the left of u: w to the left of v -/
theorem lex3 {u1 u2 v1 v2 w1 w2 : Int} (hu : 0 < u1 ∨ (u1 = 0 ∧ 0 < u2)) (hv : 0 < v1 ∨ (v1 = 0 ∧ 0 ≤ v2)) (hw : w1 < 0 ∨ (w1 = 0 ∧ w2 ≤ 0)) (hY : 0 ≤ u1 * w2 - u2 * w1) (hZ : 0 ≤ u1 * v2 - u2 * v1) : 0 ≤ v1 * w2 - v2 * w1 := by
  apply Classical.byContradiction
  intro hX
  have e1 : u1 * (v1 * w2 - v2 * w1) = v1 * (u1 * w2 - u2 * w1) + (-w1) * (u1 * v2 - u2 * v1) := by grind
  have e2 : u2 * (v1 * w2 - v2 * w1) = v2 * (u1 * w2 - u2 * w1) + (-w2) * (u1 * v2 - u2 * v1) := by grind
  generalize v1 * w2 - v2 * w1 = X at *
  generalize u1 * w2 - u2 * w1 = Y at *
  generalize u1 * v2 - u2 * v1 = Z at *
  have n1 : 0 ≤ v1 * Y := mulnnH (by omega) hY
  have n2 : 0 ≤ (-w1) * Z := mulnnH (by omega) hZ
  rcases hu with hu | ⟨hu, hu2⟩
  · have : u1 * X < 0 := Int.mul_neg_of_pos_of_neg hu (by omega)
    omega
  · subst hu
    rw [Int.zero_mul] at e1
    have : u2 * X < 0 := Int.mul_neg_of_pos_of_neg hu2 (by omega)
    have z1 : v1 * Y = 0 := by omega
    have z2 : (-w1) * Z = 0 := by omega
    have m1 : 0 ≤ v2 * Y := by
      rcases Int.mul_eq_zero.1 z1 with q | q
      · exact mulnnH (by omega) hY
      · rw [q, Int.mul_zero]; exact Int.le_refl _
    have m2 : 0 ≤ (-w2) * Z := by
      rcases Int.mul_eq_zero.1 z2 with q | q
      · exact mulnnH (by omega) hZ
      · rw [q, Int.mul_zero]; exact Int.le_refl _
    omega
/-- three vectors ahead: left turns follow one another -/
theorem lex3s {u1 u2 v1 v2 w1 w2 : Int} (hu : 0 < u1 ∨ (u1 = 0 ∧ 0 < u2)) (hv : 0 < v1 ∨ (v1 = 0 ∧ 0 < v2)) (hw : 0 < w1 ∨ (w1 = 0 ∧ 0 < w2)) (hR : 0 < u1 * v2 - u2 * v1) (hQ : 0 < v1 * w2 - v2 * w1) : 0 < u1 * w2 - u2 * w1 := by
  apply Classical.byContradiction
  intro hX
  have e1 : v1 * (u1 * w2 - u2 * w1) = u1 * (v1 * w2 - v2 * w1) + w1 * (u1 * v2 - u2 * v1) := by grind
  have e2 : v2 * (u1 * w2 - u2 * w1) = u2 * (v1 * w2 - v2 * w1) + w2 * (u1 * v2 - u2 * v1) := by grind
  rcases hv with hv | ⟨hv, hv2⟩
  · generalize hXX : u1 * w2 - u2 * w1 = X at *
    generalize v1 * w2 - v2 * w1 = Q at *
    generalize u1 * v2 - u2 * v1 = R at *
    have n1 : 0 ≤ u1 * Q := mulnnH (by omega) (by omega)
    have n2 : 0 ≤ w1 * R := mulnnH (by omega) (by omega)
    have n3 : v1 * X ≤ 0 := Int.mul_nonpos_of_nonneg_of_nonpos (by omega) (by omega)
    have z1 : u1 * Q = 0 := by omega
    have z2 : w1 * R = 0 := by omega
    have a1 : u1 = 0 := (Int.mul_eq_zero.1 z1).resolve_right (by omega)
    have a2 : w1 = 0 := (Int.mul_eq_zero.1 z2).resolve_right (by omega)
    subst a1; subst a2
    have : X = 0 := by rw [← hXX]; simp
    subst this
    rw [Int.mul_zero] at e2
    have p1 : 0 < u2 * Q := Int.mul_pos (by omega) hQ
    have p2 : 0 < w2 * R := Int.mul_pos (by omega) hR
    omega
  · subst hv
    simp only [Int.zero_mul, Int.mul_zero, Int.sub_zero, Int.zero_sub] at *
    -- 0 < u1 * v2, 0 < -(v2 * w1)
    have : 0 < v2 * (-w1) := by rw [Int.mul_neg]; exact hQ
    have := Int.pos_of_mul_pos_right this hv2
    omega
theorem crP_vec (a b c : Int × Int) : crP a b c = (b.1 - a.1) * (c.2 - a.2) - (b.2 - a.2) * (c.1 - a.1) := by unfold crP crs; grind
theorem crP_rot (a b c : Int × Int) : crP a b c = crP b c a := by unfold crP crs; grind
theorem crP_swap (a b c : Int × Int) : crP a c b = -crP a b c := by unfold crP crs; grind
theorem crP_self (a b : Int × Int) : crP a b b = 0 := by unfold crP crs; grind
theorem crP_aab (a b : Int × Int) : crP a a b = 0 := by unfold crP crs; grind
theorem crP_aba (a b : Int × Int) : crP a b a = 0 := by unfold crP crs; grind
/-- a < b < c turn left, p ≤ b is left of ab: it is left of bc -/
theorem left_behind {a b c p : Int × Int} (hab : lxP a b) (hbc : lxP b c) (hp : lxP p b ∨ p = b) (ht : 0 ≤ crP a b c) (hl : 0 ≤ crP a b p) : 0 ≤ crP b c p := by
  have h := lex3 (u1 := b.1 - a.1) (u2 := b.2 - a.2) (v1 := c.1 - b.1) (v2 := c.2 - b.2) (w1 := p.1 - b.1) (w2 := p.2 - b.2) (by unfold lxP at hab; omega) (by unfold lxP at hbc; omega)
    (by rcases hp with q | q; unfold lxP at q; omega; subst q; omega) (by rw [crP_vec] at hl; grind) (by rw [crP_vec] at ht; grind)
  rw [crP_vec]; exact h
/-- a < b < c < d turn left twice: d is left of ab -/
theorem left_ahead {a b c d : Int × Int} (hab : lxP a b) (hbc : lxP b c) (hcd : lxP c d) (h1 : 0 < crP a b c) (h2 : 0 < crP b c d) : 0 < crP a b d := by
  have h := lex3s (u1 := b.1 - a.1) (u2 := b.2 - a.2) (v1 := c.1 - b.1) (v2 := c.2 - b.2) (w1 := d.1 - c.1) (w2 := d.2 - c.2) (by unfold lxP at hab; omega) (by unfold lxP at hbc; omega) (by unfold lxP at hcd; omega)
    (by rw [crP_vec] at h1; grind) (by rw [crP_vec] at h2; grind)
  rw [crP_vec] at *; grind
/-- b is taken out between a and q: p from a on, that was left of ab, and of bq if behind b, is left of aq -/
theorem left_pop {a b q p : Int × Int} (hab : lxP a b) (hbq : lxP b q) (hp : lxP a p ∨ p = a) (ht : crP a b q ≤ 0) (hl : 0 ≤ crP a b p) (hr : (lxP b p ∨ p = b) → 0 ≤ crP b q p) : 0 ≤ crP a q p := by
  by_cases c : lxP b p ∨ p = b
  · have k := hr c
    have e : crP a q p = crP a b p - crP a b q + crP b q p := by unfold crP crs; grind
    omega
  · -- a ≤ p < b
    have hz := lex3 (u1 := b.1 - a.1) (u2 := b.2 - a.2) (v1 := p.1 - a.1) (v2 := p.2 - a.2) (w1 := -(q.1 - b.1)) (w2 := -(q.2 - b.2)) (by unfold lxP at hab; omega) (by rcases hp with h | h; unfold lxP at h; omega; subst h; omega) (by unfold lxP at hbq; omega)
      (by rw [crP_vec] at ht; grind) (by rw [crP_vec] at hl; grind)
    have e : crP a q p = crP a b p + ((p.1 - a.1) * (-(q.2 - b.2)) - (p.2 - a.2) * (-(q.1 - b.1))) := by unfold crP crs; grind
    omega
end Go.Proofs.YtngmegnaohmapaaDoor.Am.Sp

set_option linter.unusedVariables false
set_option linter.unusedSimpArgs false
namespace Go.Proofs.YtngmegnaohmapaaDoor.Am.Sp
/-! Chains: the last point first -/
def popC (q : Int × Int) : List (Int × Int) → List (Int × Int)
  | b :: a :: r => if crP a b q ≤ 0 then popC q (a :: r) else b :: a :: r
  | [c] => [c]
  | [] => []
def chS : List (Int × Int) → List (Int × Int) → List (Int × Int)
  | acc, [] => acc
  | acc, q :: t => chS (q :: popC q acc) t
def Ds : List (Int × Int) → Prop
  | b :: a :: r => lxP a b ∧ Ds (a :: r)
  | _ => True
def Tr : List (Int × Int) → Prop
  | c :: b :: a :: r => 0 < crP a b c ∧ Tr (b :: a :: r)
  | _ => True
def Lf (S : List (Int × Int)) : List (Int × Int) → Prop
  | b :: a :: r => (∀ p ∈ S, 0 ≤ crP a b p) ∧ Lf S (a :: r)
  | _ => True
/-- the least of the chain is the least of all -/
def Bt (S : List (Int × Int)) (C : List (Int × Int)) : Prop := ∃ z, C.getLast? = some z ∧ ∀ p ∈ S, p = z ∨ lxP z p
def Tp (S : List (Int × Int)) (C : List (Int × Int)) : Prop := ∃ c r, C = c :: r ∧ ∀ p ∈ S, p = c ∨ lxP p c
structure Chn (S C : List (Int × Int)) : Prop where
  ds : Ds C
  tr : Tr C
  lf : Lf S C
  bt : Bt S C
  tp : Tp S C
  sub : ∀ p ∈ C, p ∈ S
theorem Ds.tail {b : Int × Int} {r : List (Int × Int)} (h : Ds (b :: r)) : Ds r := by
  cases r with
  | nil => trivial
  | cons a r => exact h.2
theorem Tr.tail {b : Int × Int} {r : List (Int × Int)} (h : Tr (b :: r)) : Tr r := by
  cases r with
  | nil => trivial
  | cons a r =>
    cases r with
    | nil => trivial
    | cons z r => exact h.2
theorem Lf.tail {S : List (Int × Int)} {b : Int × Int} {r : List (Int × Int)} (h : Lf S (b :: r)) : Lf S r := by
  cases r with
  | nil => trivial
  | cons a r => exact h.2
theorem Lf.mono {S S' : List (Int × Int)} (hs : ∀ p ∈ S', p ∈ S) : ∀ {C : List (Int × Int)}, Lf S C → Lf S' C
  | b :: a :: r, h => ⟨fun p hp => h.1 p (hs p hp), Lf.mono hs h.2⟩
  | [_], _ => trivial
  | [], _ => trivial
theorem Lf.append {S S' : List (Int × Int)} : ∀ {C : List (Int × Int)}, Lf S C → Lf S' C → Lf (S ++ S') C
  | b :: a :: r, h, k => ⟨fun p hp => (List.mem_append.1 hp).elim (h.1 p) (k.1 p), Lf.append h.2 k.2⟩
  | [_], _, _ => trivial
  | [], _, _ => trivial
theorem Bt.tail {S : List (Int × Int)} {b a : Int × Int} {r : List (Int × Int)} (h : Bt S (b :: a :: r)) : Bt S (a :: r) := by
  obtain ⟨z, h1, h2⟩ := h
  exact ⟨z, by rw [List.getLast?_cons_cons] at h1; exact h1, h2⟩
/-- what lies ahead of a chain that turns left toward it is left of all its edges -/
theorem lf_ahead {q : Int × Int} : ∀ {b a : Int × Int} {r : List (Int × Int)}, Ds (b :: a :: r) → Tr (b :: a :: r) → lxP b q → 0 < crP a b q → Lf [q] (b :: a :: r)
  | b, a, [], hd, ht, hb, h => ⟨fun p hp => by rw [List.mem_singleton.1 hp]; omega, trivial⟩
  | b, a, z :: r, hd, ht, hb, h => by
    refine ⟨fun p hp => by rw [List.mem_singleton.1 hp]; omega, ?_⟩
    exact lf_ahead hd.2 ht.2 (hd.1.trans hb) (left_ahead hd.2.1 hd.1 hb ht.1 h)
theorem pop_chn {S : List (Int × Int)} {q : Int × Int} (hq : ∀ p ∈ S, lxP p q) : ∀ {C : List (Int × Int)}, Ds C → Tr C → Lf S C → Bt S C → (∀ p ∈ C, p ∈ S) → (∀ c r, C = c :: r → ∀ p ∈ S, (lxP c p ∨ p = c) → 0 ≤ crP c q p) →
    Ds (q :: popC q C) ∧ Tr (q :: popC q C) ∧ Lf (S ++ [q]) (q :: popC q C) ∧ Bt (S ++ [q]) (q :: popC q C) ∧ (∀ p ∈ popC q C, p ∈ S)
  | [], hd, ht, hl, hb, hs, hr => by obtain ⟨z, h1, _⟩ := hb; simp at h1
  | [c], hd, ht, hl, hb, hs, hr => by
    have hc := hs c (by simp)
    obtain ⟨z, h1, h2⟩ := hb
    have hz : c = z := by simpa using h1
    subst hz
    refine ⟨⟨hq c hc, trivial⟩, trivial, ⟨fun p hp => ?_, trivial⟩, ⟨c, by simp [popC], fun p hp => ?_⟩, fun p hp => hs p hp⟩
    · rcases List.mem_append.1 hp with k | k
      · refine hr c [] rfl p k ?_
        rcases h2 p k with e | e
        · exact .inr e
        · exact .inl e
      · rw [List.mem_singleton.1 k, crP_self]; exact Int.le_refl _
    · rcases List.mem_append.1 hp with k | k
      · exact h2 p k
      · rw [List.mem_singleton.1 k]; exact .inr (hq c hc)
  | b :: a :: r, hd, ht, hl, hb, hs, hr => by
    have hbs := hs b (by simp)
    by_cases hp : crP a b q ≤ 0
    · rw [popC, if_pos hp]
      refine pop_chn hq hd.2 ht.tail hl.2 hb.tail (fun p h => hs p (List.mem_cons_of_mem _ h)) (fun c r' e p h1 h2 => ?_)
      rw [List.cons.injEq] at e
      obtain ⟨rfl, rfl⟩ := e
      exact left_pop hd.1 (hq b hbs) h2 hp (hl.1 p h1) (fun k => hr b _ rfl p h1 k)
    · rw [popC, if_neg hp]
      have h0 : 0 < crP a b q := by omega
      refine ⟨⟨hq b hbs, hd⟩, ⟨h0, ht⟩, ⟨fun p h => ?_, Lf.append hl (lf_ahead hd ht (hq b hbs) h0)⟩, ?_, hs⟩
      · rcases List.mem_append.1 h with k | k
        · rcases lxP.tri p b with c | c | c
          · exact left_behind hd.1 (hq b hbs) (.inl c) (by omega) (hl.1 p k)
          · exact hr b _ rfl p k (.inr c)
          · exact hr b _ rfl p k (.inl c)
        · rw [List.mem_singleton.1 k, crP_self]; exact Int.le_refl _
      · obtain ⟨z, h1, h2⟩ := hb
        refine ⟨z, by rw [List.getLast?_cons_cons]; exact h1, fun p h => ?_⟩
        rcases List.mem_append.1 h with k | k
        · exact h2 p k
        · have hzs : z ∈ S := hs z (List.mem_of_getLast? h1)
          rw [List.mem_singleton.1 k]; exact .inr (hq z hzs)
theorem Chn.step {S C : List (Int × Int)} {q : Int × Int} (h : Chn S C) (hq : ∀ p ∈ S, lxP p q) : Chn (S ++ [q]) (q :: popC q C) := by
  have k := pop_chn hq h.ds h.tr h.lf h.bt h.sub (fun c r e p h1 h2 => by
    obtain ⟨c', r', e', h3⟩ := h.tp
    rw [e'] at e
    obtain ⟨rfl, rfl⟩ := List.cons.inj e
    rcases h3 p h1 with k | k
    · rw [k, crP_aba]; exact Int.le_refl _
    · rcases h2 with g | g
      · exact (lxP.irr (g.trans k)).elim
      · rw [g, crP_aba]; exact Int.le_refl _)
  refine ⟨k.1, k.2.1, k.2.2.1, k.2.2.2.1, ⟨q, _, rfl, fun p hp => ?_⟩, fun p hp => ?_⟩
  · rcases List.mem_append.1 hp with g | g
    · exact .inr (hq p g)
    · exact .inl (List.mem_singleton.1 g)
  · rcases List.mem_cons.1 hp with g | g
    · subst g; simp
    · exact List.mem_append.2 (.inl (k.2.2.2.2 p g))
theorem chn_one (a : Int × Int) : Chn [a] [a] := ⟨trivial, trivial, trivial, ⟨a, rfl, fun p hp => .inl (List.mem_singleton.1 hp)⟩, ⟨a, [], rfl, fun p hp => .inl (List.mem_singleton.1 hp)⟩, fun p hp => hp⟩
theorem chS_chn : ∀ (t S C : List (Int × Int)), Chn S C → (S ++ t).Pairwise lxP → Chn (S ++ t) (chS C t)
  | [], S, C, h, _ => by rw [List.append_nil]; exact h
  | q :: t, S, C, h, hp => by
    have hq : ∀ p ∈ S, lxP p q := fun p k => (List.pairwise_append.1 hp).2.2 p k q (by simp)
    have := chS_chn t (S ++ [q]) _ (h.step hq) (by rw [List.append_assoc]; exact hp)
    rw [List.append_assoc] at this; exact this
/-- the chain of points in their order -/
theorem chn_of {a : Int × Int} {t : List (Int × Int)} (h : (a :: t).Pairwise lxP) : Chn (a :: t) (chS [] (a :: t)) := chS_chn t [a] [a] (chn_one a) h
/-- three on one line, b between: what turns toward c at b turns away from a -/
theorem between_turn {z b c a : Int × Int} (hbc : lxP b c) (hab : lxP a b) (h0 : crP a b c = 0) (ht : 0 < crP z b c) : crP z b a < 0 := by
  apply Classical.byContradiction
  intro hn
  have e1 : (c.1 - b.1) * crP z b a + (-(a.1 - b.1)) * crP z b c = (b.1 - z.1) * crP a b c := by unfold crP crs; grind
  have e2 : (c.2 - b.2) * crP z b a + (-(a.2 - b.2)) * crP z b c = (b.2 - z.2) * crP a b c := by unfold crP crs; grind
  rw [h0, Int.mul_zero] at e1 e2
  unfold lxP at *
  generalize crP z b a = X at *
  generalize crP z b c = Y at *
  have n1 : 0 ≤ (c.1 - b.1) * X := mulnnH (by omega) (by omega)
  have n2 : 0 ≤ -(a.1 - b.1) * Y := mulnnH (by omega) (by omega)
  have z2 : -(a.1 - b.1) * Y = 0 := by omega
  have a1 : -(a.1 - b.1) = 0 := (Int.mul_eq_zero.1 z2).resolve_right (by omega)
  have p2 : 0 < -(a.2 - b.2) * Y := Int.mul_pos (by omega) ht
  have z1 : (c.1 - b.1) * X = 0 := by omega
  have n3 : 0 ≤ (c.2 - b.2) * X := by
    rcases Int.mul_eq_zero.1 z1 with k | k
    · exact mulnnH (by omega) (by omega)
    · rw [k, Int.mul_zero]; exact Int.le_refl _
  omega
/-- there is one chain -/
theorem chn_next {S : List (Int × Int)} {b a a' : Int × Int} {r r' : List (Int × Int)} (hd : Ds (b :: a :: r)) (hd' : Ds (b :: a' :: r')) (ht' : Tr (b :: a' :: r')) (hl : Lf S (b :: a :: r)) (hl' : Lf S (b :: a' :: r')) (hb' : Bt S (b :: a' :: r')) (ha : a ∈ S) (ha' : a' ∈ S) : ¬ lxP a a' := by
  intro h
  have h1 := hl.1 a' ha'
  have h2 := hl'.1 a ha
  have e : crP a b a' = -crP a' b a := by unfold crP crs; grind
  have e0 : crP a a' b = 0 := by have : crP a a' b = crP a' b a := crP_rot _ _ _; omega
  cases r' with
  | nil =>
    obtain ⟨z, g1, g2⟩ := hb'
    have : a' = z := by simpa using g1
    subst this
    rcases g2 a ha with k | k
    · subst k; exact h.irr
    · exact (h.trans k).irr
  | cons z r' =>
    have := between_turn hd'.1 h e0 ht'.1
    have := hl'.2.1 a ha
    omega
theorem chn_uniq0 {S : List (Int × Int)} : ∀ {C C' : List (Int × Int)} {b : Int × Int}, Ds (b :: C) → Tr (b :: C) → Lf S (b :: C) → Bt S (b :: C) → (∀ p ∈ b :: C, p ∈ S) → Ds (b :: C') → Tr (b :: C') → Lf S (b :: C') → Bt S (b :: C') → (∀ p ∈ b :: C', p ∈ S) → C = C'
  | [], [], b, _, _, _, _, _, _, _, _, _, _ => rfl
  | [], a' :: r', b, hd, ht, hl, hb, hs, hd', ht', hl', hb', hs' => by
    obtain ⟨z, g1, g2⟩ := hb
    have : b = z := by simpa using g1
    subst this
    rcases g2 a' (hs' a' (by simp)) with k | k
    · subst k; exact (hd'.1.irr).elim
    · exact ((hd'.1.trans k).irr).elim
  | a :: r, [], b, hd, ht, hl, hb, hs, hd', ht', hl', hb', hs' => by
    obtain ⟨z, g1, g2⟩ := hb'
    have : b = z := by simpa using g1
    subst this
    rcases g2 a (hs a (by simp)) with k | k
    · subst k; exact (hd.1.irr).elim
    · exact ((hd.1.trans k).irr).elim
  | a :: r, a' :: r', b, hd, ht, hl, hb, hs, hd', ht', hl', hb', hs' => by
    have n1 := chn_next hd hd' ht' hl hl' hb' (hs a (by simp)) (hs' a' (by simp))
    have n2 := chn_next hd' hd ht hl' hl hb (hs' a' (by simp)) (hs a (by simp))
    rcases lxP.tri a a' with k | k | k
    · exact (n1 k).elim
    · subst k
      rw [chn_uniq0 hd.2 ht.tail hl.2 hb.tail (fun p hp => hs p (List.mem_cons_of_mem _ hp)) hd'.2 ht'.tail hl'.2 hb'.tail (fun p hp => hs' p (List.mem_cons_of_mem _ hp))]
    · exact (n2 k).elim
theorem Chn.uniq {S C C' : List (Int × Int)} (h : Chn S C) (h' : Chn S C') : C = C' := by
  obtain ⟨c, r, rfl, g⟩ := h.tp
  obtain ⟨c', r', rfl, g'⟩ := h'.tp
  have hc : c = c' := by
    rcases g' c (h.sub c (by simp)) with k | k
    · exact k
    · rcases g c' (h'.sub c' (by simp)) with q | q
      · exact q.symm
      · exact (k.trans q).irr.elim
  subst hc
  rw [chn_uniq0 h.ds h.tr h.lf h.bt h.sub h'.ds h'.tr h'.lf h'.bt h'.sub]
/-- a chain of all is one of its own points, and of whatever lies between -/
theorem Chn.less {S S' C : List (Int × Int)} (h : Chn S C) (h1 : ∀ p ∈ S', p ∈ S) (h2 : ∀ p ∈ C, p ∈ S') : Chn S' C := by
  refine ⟨h.ds, h.tr, h.lf.mono h1, ?_, ?_, h2⟩
  · obtain ⟨z, a, b⟩ := h.bt; exact ⟨z, a, fun p hp => b p (h1 p hp)⟩
  · obtain ⟨c, r, a, b⟩ := h.tp; exact ⟨c, r, a, fun p hp => b p (h1 p hp)⟩
end Go.Proofs.YtngmegnaohmapaaDoor.Am.Sp

