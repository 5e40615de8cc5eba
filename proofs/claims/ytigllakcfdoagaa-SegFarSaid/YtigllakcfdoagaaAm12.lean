import Derived.Test.YtigllakcfdoagaaAm11
namespace Go.Proofs.Ytigllakcfdoagaa.Am
open Go Go.RowKit Go.WideShapes Go.ChangeShapes Go.ChangeAt
/-! ### 23. From a contract to a row, with arguments that are only read -/
def RelL (ρ : Ren) (us xs : List Value) : Prop := us.length = xs.length ∧ ∀ (j : Nat) (u : Value), us[j]? = some u → ∃ x, xs[j]? = some x ∧ VRel ρ u x
theorem RelL.nil {ρ : Ren} : RelL ρ [] [] := ⟨rfl, fun j u h => by simp at h⟩
theorem RelL.cons {ρ : Ren} {u x : Value} {us xs : List Value} (h : VRel ρ u x) (t : RelL ρ us xs) : RelL ρ (u :: us) (x :: xs) :=
  ⟨by simp [t.1], fun j u' hu => by
    cases j with
    | zero => simp at hu; subst hu; exact ⟨x, rfl, h⟩
    | succ j => exact t.2 j u' (by simpa using hu)⟩
theorem rel_flat {ρ : Ren} {u : Value} (h : flatB u = true) : VRel ρ u u := .of_only (only_flat h)
theorem law_calls2 {P : Program} {f : FuncId} {args xs : List Value} {pre : List (Nat × Blk)} {spots : List Spot} {b : Bool} (ac : AC P f spots.length args pre (.bool b) []) (w : World)
    (ha : RelL (fun k => spots[k]?) args xs) (hp : ∀ k b, (k, b) ∈ pre → b.own = false ∧ ∃ sp, spots[k]? = some sp ∧ BlkOk (fun k => spots[k]?) w sp b) :
    Calls P f xs.toArray w fun e w' => e = .returned (.bool b) ∧ Below w.heap.size w w' := by
  refine (ac (fun k => spots[k]?) w xs.toArray (by simpa using ha.1) (fun j u hu => by obtain ⟨x, h1, h2⟩ := ha.2 j u hu; exact ⟨x, by simpa using h1, h2⟩)
    ⟨fun k b hk => (hp k b hk).2, fun k k' b b' sp sp' _ hk _ ho => by rw [(hp k b hk).1] at ho; cases ho⟩ (fun k hk => ⟨spots[k], List.getElem?_eq_getElem hk⟩) (fun k hk => List.getElem?_eq_none hk)).mono ?_
  rintro e w' ⟨v', ρ', rfl, hv, _, _, _, hfr⟩
  cases hv
  exact ⟨rfl, below_of_frame hfr (fun b _ => by rintro ⟨k, b, sp, hm, ho, _⟩; rw [(hp k b hm).1] at ho; cases ho)⟩
def PreOk (ρ : Ren) (w : World) (L : List (Nat × Blk)) : Prop := ∀ k b, (k, b) ∈ L → b.own = false ∧ ∃ sp, ρ k = some sp ∧ BlkOk ρ w sp b
theorem PreOk.nil {ρ : Ren} {w : World} : PreOk ρ w [] := fun _ _ h => by cases h
theorem PreOk.cons {ρ : Ren} {w : World} {k : Nat} {b : Blk} {sp : Spot} {L : List (Nat × Blk)} (ho : b.own = false) (hs : ρ k = some sp) (hb : BlkOk ρ w sp b) (t : PreOk ρ w L) : PreOk ρ w ((k, b) :: L) := fun k' b' h => by
  rcases List.mem_cons.1 h with e | h
  · cases e; exact ⟨ho, sp, hs, hb⟩
  · exact t k' b' h
/-- rows of one number -/
theorem rows_int : ∀ (rows : List (List Value)), (∀ r ∈ rows, LeafsOk [.int .i64] r ∧ r.length = 1) → ∃ xs : List Int, rows.length = xs.length ∧ rows.flatten = xs.map i64v ∧ ∀ x ∈ xs, (Lit.int .i64 x).wf = true
  | [], _ => ⟨[], rfl, rfl, by simp⟩
  | r :: rows, h => by
    obtain ⟨xs, h1, h2, h3⟩ := rows_int rows (fun q hq => h q (List.mem_cons_of_mem _ hq))
    obtain ⟨⟨n, cs', rfl, hw, hc⟩, _⟩ := h r List.mem_cons_self
    cases hc
    exact ⟨n :: xs, by simp [h1], by simp [h2, i64v], by simpa using ⟨hw, h3⟩⟩
/-- rows of two numbers -/
def ptc (p : Int × Int) : List Value := [.int .i64 p.1, .int .i64 p.2]
theorem rows_pair : ∀ (rows : List (List Value)), (∀ r ∈ rows, LeafsOk [.int .i64, .int .i64] r ∧ r.length = 2) → ∃ xs : List (Int × Int), rows.length = xs.length ∧ rows.flatten = xs.flatMap ptc ∧ ∀ x ∈ xs, (Lit.int .i64 x.1).wf = true ∧ (Lit.int .i64 x.2).wf = true
  | [], _ => ⟨[], rfl, rfl, by simp⟩
  | r :: rows, h => by
    obtain ⟨xs, h1, h2, h3⟩ := rows_pair rows (fun q hq => h q (List.mem_cons_of_mem _ hq))
    obtain ⟨⟨n, _, rfl, hw, m, _, rfl, hw2, hc⟩, _⟩ := h r List.mem_cons_self
    cases hc
    exact ⟨(n, m) :: xs, by simp [h1], by simp [h2, ptc], by
      intro x hx
      rcases List.mem_cons.1 hx with rfl | hx
      · exact ⟨hw, hw2⟩
      · exact h3 x hx⟩
theorem flats_pair (ps : List (Int × Int)) : (ps.flatMap ptc).all flatB = true := by
  rw [List.all_eq_true]
  intro v hv
  obtain ⟨p, _, hp⟩ := List.mem_flatMap.1 hv
  simp only [ptc, List.mem_cons, List.not_mem_nil, or_false] at hp
  rcases hp with rfl | rfl <;> rfl
theorem pairs_drop : ∀ (ps : List (Int × Int)) (j : Nat), (ps.flatMap ptc).drop (2 * j) = (ps.drop j).flatMap ptc
  | _, 0 => rfl
  | [], j + 1 => by simp
  | p :: ps, j + 1 => by
    have := pairs_drop ps j
    rw [Nat.mul_succ]
    simpa [List.flatMap_cons, ptc] using this
theorem pairs_length (ps : List (Int × Int)) : (ps.flatMap ptc).length = 2 * ps.length := by
  induction ps with
  | nil => rfl
  | cons p ps ih => rw [List.flatMap_cons, List.length_append, ih]; simp [ptc]; omega
/-- A pair read at a place of a row of pairs. -/
theorem ldV_pair {P : Program} {t : TypeId} {ps : List (Int × Int)} {off j : Nat} (ha : aggB P t = some true) (hi : (P.info? t).map (·.size) = some 2) (ho : off = 2 * j) (h : j < ps.length) :
    ldV P t (ps.flatMap ptc) off = some (.agg #[.int .i64 (ps.getD j (0, 0)).1, .int .i64 (ps.getD j (0, 0)).2]) := by
  unfold ldV
  obtain ⟨inf, hinf, hsz⟩ := Option.map_eq_some_iff.1 hi
  rw [hinf]
  simp only [ha, hsz]
  have hb : Nat.ble (off + 2) (ps.flatMap ptc).length = true := Nat.ble_eq_true_of_le (by rw [pairs_length]; omega)
  rw [hb]
  subst ho
  have e : ((ps.flatMap ptc).drop (2 * j)).take 2 = [.int .i64 (ps[j]).1, .int .i64 (ps[j]).2] := by
    rw [pairs_drop, List.drop_eq_getElem_cons h, List.flatMap_cons]; rfl
  rw [e]
  simp [List.getD, List.getElem?_eq_getElem h]
end Go.Proofs.Ytigllakcfdoagaa.Am
