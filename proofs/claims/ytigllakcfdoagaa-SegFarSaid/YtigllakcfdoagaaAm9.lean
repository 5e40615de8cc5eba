import Derived.Test.YtigllakcfdoagaaAm8
namespace Go.Proofs.Ytigllakcfdoagaa.Am
open Go Go.RowKit Go.WideShapes Go.ChangeShapes Go.ChangeAt
/-! ### 20. Parameters of flat types (numbers, truth values, texts, structs of these) -/
inductive LK | int (k : IntKind) | bool | str
def leafsF (P : Program) (rec : TypeId → Option (List LK)) : Nat → List Field → Option (List LK)
  | _, [] => some []
  | off, f :: fs => if f.offset = off then
      match rec f.type with
      | none => none
      | some l => if P.cellsOf f.type = l.length then
          match leafsF P rec (off + l.length) fs with
          | none => none
          | some r => some (l ++ r)
        else none
    else none
def leafs (P : Program) : Nat → TypeId → Option (List LK)
  | 0, _ => none
  | n + 1, t => match P.underlying t with
    | some (.int k) => some [.int k]
    | some .bool => some [.bool]
    | some .string => some [.str]
    | some (.struct fs) => match leafsF P (leafs P n) 0 fs.toList with
      | none => none
      | some l => if P.cellsOf t = l.length then some l else none
    | _ => none
def LeafsOk : List LK → List Value → Prop
  | [], cs => cs = []
  | .int k :: ks, cs => ∃ n cs', cs = .int k n :: cs' ∧ (Lit.int k n).wf = true ∧ LeafsOk ks cs'
  | .bool :: ks, cs => ∃ b cs', cs = .bool b :: cs' ∧ LeafsOk ks cs'
  | .str :: ks, cs => ∃ s cs', cs = .string s :: cs' ∧ s.size ≤ maxLen ∧ LeafsOk ks cs'
theorem LeafsOk.append : ∀ {ks ks' : List LK} {a b : List Value}, LeafsOk ks a → LeafsOk ks' b → LeafsOk (ks ++ ks') (a ++ b)
  | [], _, _, _, h, h' => by cases h; exact h'
  | .int _ :: _, _, _, _, ⟨n, cs', e, hw, h⟩, h' => by subst e; exact ⟨n, _, rfl, hw, h.append h'⟩
  | .bool :: _, _, _, _, ⟨b, cs', e, h⟩, h' => by subst e; exact ⟨b, _, rfl, h.append h'⟩
  | .str :: _, _, _, _, ⟨s, cs', e, hs, h⟩, h' => by subst e; exact ⟨s, _, rfl, hs, h.append h'⟩
section
variable {H : Type} {enc : TypeId × Value → H} {P : Program}
theorem mapM_of {α β : Type} {g : α → Option β} : ∀ {l : List α} {xs : List β}, xs.length = l.length → (∀ (j : Nat) (a : α), l[j]? = some a → g a = xs[j]?) → l.mapM g = some xs
  | [], [], _, _ => by simp
  | a :: l, x :: xs, hl, h => by
    have h0 := h 0 a rfl
    have ht := mapM_of (g := g) (l := l) (xs := xs) (by simpa using hl) (fun j b hb => by simpa using h (j + 1) b (by simpa using hb))
    simp at h0
    simp [h0, ht]
  | [], _ :: _, hl, _ => by simp at hl
  | _ :: _, [], hl, _ => by simp at hl
theorem open_leafs : ∀ (n : Nat) {t : TypeId} {ks : List LK} {w : World} {base : Nat} {spare : Nat → Bool} {held : Bool} {fuel : Nat} {cs : List Value} {x : DataW H × List MemPlace},
    leafs P n t = some ks → DataW.trod enc P w base spare held fuel t cs = some x →
    LeafsOk ks cs ∧ x.2 = [] ∧ ∀ (w' : World) (base' : Nat) (spare' : Nat → Bool) (held' : Bool), DataW.trod enc P w' base' spare' held' fuel t cs = some x := by
  intro n
  induction n with
  | zero => intro t ks w base spare held fuel cs x hl; simp [leafs] at hl
  | succ n ih =>
    intro t ks w base spare held fuel cs x hl h
    have same : ∀ (w' : World) (base' : Nat) (spare' : Nat → Bool) (held' : Bool), (∀ q, P.underlying t = some q → (∃ k, q = .int k) ∨ q = .bool ∨ q = .string) → (∃ q, P.underlying t = some q) → DataW.trod enc P w' base' spare' held' fuel t cs = some x := by
      intro w' base' spare' held' hq ⟨q, hu⟩
      cases fuel with
      | zero => simp [DataW.trod] at h
      | succ m =>
        unfold DataW.trod at h ⊢
        rw [hu] at h ⊢
        rcases hq q hu with ⟨k, rfl⟩ | rfl | rfl
        · split at h <;> simp_all
        · split at h <;> simp_all
        · split at h <;> simp_all
    unfold leafs at hl
    split at hl
    · rename_i k hu
      cases hl
      obtain ⟨m, rfl, rfl, hw⟩ := DataW.trod_int hu h
      exact ⟨⟨m, [], rfl, hw, rfl⟩, rfl, fun a b c d => same a b c d (fun q hq => .inl ⟨k, by rw [hu] at hq; exact (Option.some.inj hq).symm⟩) ⟨_, hu⟩⟩
    · rename_i hu
      cases hl
      obtain ⟨m, rfl, rfl⟩ := DataW.trod_bool hu h
      exact ⟨⟨m, [], rfl, rfl⟩, rfl, fun a b c d => same a b c d (fun q hq => .inr (.inl (by rw [hu] at hq; exact (Option.some.inj hq).symm))) ⟨_, hu⟩⟩
    · rename_i hu
      cases hl
      obtain ⟨m, rfl, rfl, hs⟩ := DataW.trod_string hu h
      exact ⟨⟨m, [], rfl, hs, rfl⟩, rfl, fun a b c d => same a b c d (fun q hq => .inr (.inr (by rw [hu] at hq; exact (Option.some.inj hq).symm))) ⟨_, hu⟩⟩
    · rename_i fs hu
      split at hl
      · cases hl
      rename_i l hlf
      split at hl
      case isFalse => cases hl
      rename_i hc
      cases hl
      obtain ⟨xs, m, rfl, rfl, hcl, hlen, hf⟩ := DataW.trod_struct hu h
      have aux : ∀ (fl : List Field) (off : Nat) (ks' : List LK) (xl : List (DataW H × List MemPlace)), leafsF P (leafs P n) off fl = some ks' → (cs.drop off).length = ks'.length → xl.length = fl.length →
          (∀ (j : Nat) (f : Field), fl[j]? = some f → DataW.trod enc P w base spare held m f.type ((cs.drop f.offset).take (P.cellsOf f.type)) = xl[j]?) →
          LeafsOk ks' (cs.drop off) ∧ xl.flatMap (·.2) = [] ∧ ∀ (w' : World) (base' : Nat) (spare' : Nat → Bool) (held' : Bool) (j : Nat) (f : Field), fl[j]? = some f → DataW.trod enc P w' base' spare' held' m f.type ((cs.drop f.offset).take (P.cellsOf f.type)) = xl[j]? := by
        intro fl
        induction fl with
        | nil =>
          intro off ks' xl h1 h2 h3 _
          cases h1
          cases xl with
          | nil => exact ⟨List.length_eq_zero_iff.1 h2, rfl, fun _ _ _ _ j f hj => by simp at hj⟩
          | cons _ _ => simp at h3
        | cons f fl ihf =>
          intro off ks' xl h1 h2 h3 h4
          cases xl with
          | nil => simp at h3
          | cons y xl =>
            unfold leafsF at h1
            split at h1
            case isFalse => cases h1
            rename_i ho
            split at h1
            · cases h1
            rename_i l1 hl1
            split at h1
            case isFalse => cases h1
            rename_i hc1
            split at h1
            · cases h1
            rename_i r hr
            cases h1
            have y0 := h4 0 f rfl
            simp only [List.getElem?_cons_zero] at y0
            obtain ⟨g1, g2, g3⟩ := ih hl1 y0
            have hlen1 : (cs.drop (off + l1.length)).length = r.length := by
              rw [← List.drop_drop, List.length_drop, h2, List.length_append]; omega
            obtain ⟨k1, k2, k3⟩ := ihf (off + l1.length) r xl hr hlen1 (by simpa using h3) (fun j f' hj => by simpa using h4 (j + 1) f' (by simpa using hj))
            refine ⟨?_, by simp [g2, k2], ?_⟩
            · rw [ho, hc1] at g1
              have := g1.append k1
              rwa [← List.drop_drop, List.take_append_drop] at this
            · intro w' base' spare' held' j f' hj
              cases j with
              | zero => simp at hj; subst hj; simpa using g3 w' base' spare' held'
              | succ j => simpa using k3 w' base' spare' held' j f' (by simpa using hj)
      obtain ⟨k1, k2, k3⟩ := aux fs.toList 0 ks xs hlf (by simpa using hcl.trans hc) (by simpa using hlen) (fun j f hj => hf j f (by simpa using hj))
      refine ⟨by simpa using k1, k2, fun w' base' spare' held' => ?_⟩
      exact trod_struct_mk hu hcl (mapM_of (by simpa using hlen) (fun j f hj => k3 w' base' spare' held' j f hj))
    · cases hl
theorem open_agg {n : Nat} {t : TypeId} {fs : Array Field} {ks : List LK} {r : Reach} {b0 : Nat} {w : World} {base : Nat} {spare : Nat → Bool} {held : Bool} {v : Value} {d : DataW H} {p : List MemPlace}
    (hs : P.underlying t = some (.struct fs)) (hl : leafs P n t = some ks) (hv : Value.okWide P w r b0 t v) (h : DataW.Trod enc P w base spare held t v d p) :
    ∃ cs : List Value, v = .agg cs.toArray ∧ p = [] ∧ LeafsOk ks cs ∧ ∀ (w' : World) (base' : Nat) (spare' : Nat → Bool) (held' : Bool), DataW.Trod enc P w' base' spare' held' t (.agg cs.toArray) d [] := by
  obtain ⟨cs, rfl, hsz⟩ := okWide_struct hs hv
  obtain ⟨fuel, hf⟩ := h
  obtain ⟨h1, h2, h3⟩ := open_leafs n hl hf
  refine ⟨cs.toList, by simp, h2, by simpa [Value.cells] using h1, fun w' b' s' h' => ⟨fuel, ?_⟩⟩
  have := h3 w' b' s' h'
  rw [← show p = [] from h2]
  simpa [Value.cells] using this
end
end Go.Proofs.Ytigllakcfdoagaa.Am
