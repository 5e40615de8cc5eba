import Derived.Test.YtigllakcfdoagaaAm5
import Derived.Laws.Append
import Derived.Laws.AppendOwn
import Derived.Laws.MakeOwn
namespace Go.Proofs.Ytigllakcfdoagaa.Am
open Go

/-! ### 17. Building values out of parts -/
def PRel (ρ : Ren) (l l' : List Value) : Prop := l.length = l'.length ∧ ∀ (j : Nat) (u : Value), l[j]? = some u → ∃ x, l'[j]? = some x ∧ VRel ρ u x
theorem PRel.set {ρ : Ren} {l l' : List Value} (h : PRel ρ l l') {u u' : Value} (r : VRel ρ u u') (n : Nat) : PRel ρ (l.set n u) (l'.set n u') := by
  refine ⟨by simp [h.1], fun j x hx => ?_⟩
  rw [List.getElem?_set] at hx
  by_cases e : n = j
  · subst e
    rw [if_pos rfl] at hx
    split at hx
    · cases hx
      rename_i hlt
      exact ⟨u', by rw [List.getElem?_set_self (by have := h.1; omega)], r⟩
    · cases hx
  · rw [if_neg e] at hx
    obtain ⟨y, h1, h2⟩ := h.2 j x hx
    exact ⟨y, by rw [List.getElem?_set_ne e]; exact h1, h2⟩
theorem PRel.tail {ρ : Ren} {x y : Value} {l l' : List Value} (h : PRel ρ (x :: l) (y :: l')) : PRel ρ l l' := ⟨by simpa using h.1, fun j u hu => by have := h.2 (j + 1) u hu; simpa using this⟩
theorem PRel.head {ρ : Ren} {x y : Value} {l l' : List Value} (h : PRel ρ (x :: l) (y :: l')) : VRel ρ x y := by
  obtain ⟨z, h1, h2⟩ := h.2 0 x rfl
  simp only [List.getElem?_cons_zero, Option.some.injEq] at h1
  subst h1; exact h2
theorem PRel.cells {ρ : Ren} {v v' : Value} (r : VRel ρ v v') : PRel ρ v.cells.toList v'.cells.toList := by
  obtain ⟨h1, h2⟩ := r.cells
  exact ⟨by simpa using h1, fun j u hu => by obtain ⟨x, e1, e2⟩ := h2 j u hu; exact ⟨x, by simpa using e1, e2⟩⟩
/-- The fold of 'fill', on lists. -/
def putL (off : Nat) : Nat → List Value → List Value → List Value
  | _, [], cs => cs
  | i, c :: l, cs => putL off (i + 1) l (cs.set (off + i) c)
theorem putL_rel {ρ : Ren} {off : Nat} : ∀ (l l' : List Value) (i : Nat) (cs cs' : List Value), PRel ρ l l' → PRel ρ cs cs' → PRel ρ (putL off i l cs) (putL off i l' cs')
  | [], [], _, _, _, _, h => h
  | [], _ :: _, _, _, _, h, _ => by have := h.1; simp at this
  | _ :: _, [], _, _, _, h, _ => by have := h.1; simp at this
  | x :: l, y :: l', i, cs, cs', h, h2 => putL_rel l l' (i + 1) _ _ h.tail (h2.set h.head _)
theorem putL_length {off : Nat} : ∀ (l : List Value) (i : Nat) (cs : List Value), (putL off i l cs).length = cs.length
  | [], _, _ => rfl
  | x :: l, i, cs => by simp [putL, putL_length l]
theorem fold_putL (off : Nat) : ∀ (l : List Value) (i : Nat) (cs : Array Value), ((l.zipIdx i).foldl (fun cs (x : Value × Nat) => cs.setIfInBounds (off + x.2) x.1) cs).toList = putL off i l cs.toList
  | [], _, _ => rfl
  | x :: l, i, cs => by
    simp only [List.zipIdx_cons, List.foldl_cons, putL]
    rw [fold_putL off l (i + 1)]
    simp
def fillL (place : Nat → Option (Nat × Nat)) : List (Nat × Value) → List Value → Option (List Value)
  | [], cs => some cs
  | (i, v) :: rest, cs => match place i with
    | none => none
    | some (off, size) => bif Nat.beq v.cells.toList.length size && Nat.ble (off + size) cs.length then fillL place rest (putL off 0 v.cells.toList cs) else none
def PartsRel (ρ : Ren) (l l' : List (Nat × Value)) : Prop := l.length = l'.length ∧ ∀ (j i : Nat) (u : Value), l[j]? = some (i, u) → ∃ x, l'[j]? = some (i, x) ∧ VRel ρ u x
theorem fill_rel {ρ : Ren} {place : Nat → Option (Nat × Nat)} : ∀ (ps ps' : List (Nat × Value)) (cs : List Value) (cs' : Array Value) (r : List Value), PartsRel ρ ps ps' → PRel ρ cs cs'.toList → fillL place ps cs = some r →
    ∃ r', Instr.fill place cs' ps' = some r' ∧ PRel ρ r r'.toList
  | [], [], cs, cs', r, _, h2, h3 => by cases h3; exact ⟨cs', rfl, h2⟩
  | [], _ :: _, _, _, _, h, _, _ => by have := h.1; simp at this
  | _ :: _, [], _, _, _, h, _, _ => by have := h.1; simp at this
  | (i, v) :: ps, (i', v') :: ps', cs, cs', r, h, h2, h3 => by
    obtain ⟨x, e1, e2⟩ := h.2 0 i v rfl
    simp only [List.getElem?_cons_zero, Option.some.injEq, Prod.mk.injEq] at e1
    obtain ⟨rfl, rfl⟩ := e1
    simp only [fillL] at h3
    split at h3
    · cases h3
    · rename_i off size hp
      have hc := PRel.cells e2
      cases hb : (Nat.beq v.cells.toList.length size && Nat.ble (off + size) cs.length) with
      | false => rw [hb] at h3; cases h3
      | true =>
        rw [hb] at h3
        simp only [cond_true] at h3
        rw [Bool.and_eq_true] at hb
        have b1 := Nat.eq_of_beq_eq_true hb.1
        have b2 := Nat.le_of_ble_eq_true hb.2
        have s1 : v'.cells.size = size := by have := hc.1; simp at this b1; omega
        have s2 : cs.length = cs'.size := by have := h2.1; simpa using this
        have hfold : (v'.cells.zipIdx.foldl (fun cs (c, j) => cs.setIfInBounds (off + j) c) cs').toList = putL off 0 v'.cells.toList cs'.toList := by
          rw [← Array.foldl_toList, Array.toList_zipIdx]
          exact fold_putL off v'.cells.toList 0 cs'
        have hcond : (v'.cells.size ≠ size || off + v'.cells.size > cs'.size) = false := by
          rw [s1]; simp; omega
        obtain ⟨r', q1, q2⟩ := fill_rel ps ps' (putL off 0 v.cells.toList cs) (v'.cells.zipIdx.foldl (fun cs (c, j) => cs.setIfInBounds (off + j) c) cs') r
          ⟨by have := h.1; simpa using this, fun j i u hu => by have := h.2 (j + 1) i u hu; simpa using this⟩ (by rw [hfold]; exact putL_rel _ _ 0 _ _ hc h2) h3
        refine ⟨r', ?_, q2⟩
        simp only [Instr.fill, hp]
        simp only [hcond, Bool.false_eq_true, if_false]
        exact q1
def evP (S : St) : List (Nat × Operand) → Option (List (Nat × Value))
  | [] => some []
  | (i, x) :: l => match ev S x, evP S l with
    | some v, some vs => some ((i, v) :: vs)
    | _, _ => none
theorem evP_rel {C : Ctx} {ρ : Ren} {S : St} {a : Act} {w : World} (h : Rel C ρ S a w) : ∀ {l : List (Nat × Operand)} {vs : List (Nat × Value)}, evP S l = some vs → PartsRel ρ vs (l.map fun p => (p.1, a.eval p.2))
  | [], vs, hv => by cases hv; exact ⟨rfl, fun j i u hu => by simp at hu⟩
  | (i, x) :: l, vs, hv => by
    unfold evP at hv
    split at hv
    · rename_i v vs0 h1 h2
      cases hv
      obtain ⟨f1, f2⟩ := evP_rel h h2
      refine ⟨by simp at f1 ⊢; exact f1, fun j i' u hu => ?_⟩
      cases j with
      | zero => simp only [List.getElem?_cons_zero, Option.some.injEq, Prod.mk.injEq] at hu; obtain ⟨rfl, rfl⟩ := hu; exact ⟨_, by simp, ev_rel h h1⟩
      | succ j => simp only [List.getElem?_cons_succ] at hu; simpa using f2 j i' u hu
    · cases hv
theorem evP_like {S S' : St} {l : List (Nat × Operand)} (h : ∀ p, p ∈ l → ev S' p.2 = ev S p.2) : evP S' l = evP S l := by
  induction l with
  | nil => rfl
  | cons x l ih => obtain ⟨i, x⟩ := x; simp only [evP]; rw [h (i, x) List.mem_cons_self, ih (fun y hy => h y (List.mem_cons_of_mem _ hy))]

section
variable {C : Ctx} {P : Program} {ops : Array Oper} {i : Nat} {S : St}
theorem PRel.flat {ρ : Ren} {l : List Value} (h : l.all flatB = true) : PRel ρ l l := ⟨rfl, fun _ u hu => ⟨u, hu, .of_only (only_flat (List.all_eq_true.1 h u (List.mem_of_getElem? hu)))⟩⟩

/-- A slice literal: a new row. -/
def rowZero (P : Program) (e : TypeId) (n : Nat) : Option (List Value) := match P.info? e with
  | some i => bif Nat.beq (n * i.size) 0 then some [] else match i.zero with
    | some z => some ((List.range (n * i.size)).map (fun j => z.cells[j % z.cells.size]!))
    | none => none
  | none => none
def sliceElem (P : Program) (t : TypeId) : Option TypeId := match P.underlying t with
  | some (.slice e) => some e
  | _ => none
theorem does_buildSlice {t e : TypeId} {n k z : Nat} {parts : Array (Nat × Operand)} {ps : List (Nat × Value)} {zs cells : List Value} (hs : shapeAt ops S i = some (.buildSlice t n parts, true)) (hk : S.H k = .fresh)
    (he : sliceElem P t = some e) (hz : (P.info? e).map (·.size) = some z) (hps : evP S parts.toList = some ps) (hzs : rowZero P e n = some zs) (hfz : zs.all flatB = true)
    (hc : fillL (fun i => some (i * z, z)) ps zs = some cells) (hl : Nat.beq cells.length (n * z) = true) (hb : Nat.ble (n * z) 16777216 = true) :
    Does C P ops i S ⟨[k], .slice (some ⟨k, 0, none⟩) n 0, [(k, .live ⟨cells, e, true, z⟩)]⟩ :=
  .of_run hs fun o ho S' ρ a w hT hH' hr => by
    have hps' : evP S' parts.toList = some ps := by rw [evP_like (fun p hp => hT p.2 (by simp [Op.operands]; exact ⟨p.1, by simpa using hp⟩))]; exact hps
    have hpr := evP_rel hr hps'
    rw [Option.map_eq_some_iff] at hz
    obtain ⟨inf, hi, rfl⟩ := hz
    obtain ⟨r', q1, q2⟩ := fill_rel ps _ zs zs.toArray cells hpr (by simpa using PRel.flat (ρ := ρ) hfz) hc
    have hlen := Nat.eq_of_beq_eq_true hl
    have hsz : r'.size = n * inf.size := by have := q2.1; simp at this; omega
    have hb' := Nat.le_of_ble_eq_true hb
    obtain ⟨hn, hrel⟩ := Rel.new hr (by rw [hH' k (by simp)]; exact hk) (cells := cells) (c := r') (e := e) (st := inf.size) (by omega) (fun j u hu => by obtain ⟨x, e1, e2⟩ := q2.2 j u hu; exact ⟨x, by simpa using e1, e2⟩)
    refine ⟨.value (.slice (some ⟨w.heap.size, 0, none⟩) n n), w.alloc (.cells r' e), _, .slice (some ⟨w.heap.size, 0, none⟩) n n, ?_, .inl rfl, ?_, hrel⟩
    · have hu : P.underlying t = some (.slice e) := by
        unfold sliceElem at he
        split at he
        · rename_i hu; cases he; exact hu
        · cases he
      have hbig : ¬ (n * inf.size > 2 ^ 24) := by have : (2 : Nat) ^ 24 = 16777216 := by decide
                                                  omega
      simp only [execOp, ho, Instr.buildSlice, Sem.run_bind, run_underlying hu, Result.andThen_ok, run_size hi, Sem.run_ite, hbig, if_false, Sem.run_pure]
      have hpm : (Array.map (fun x : Nat × Operand => (x.1, a.eval x.2)) parts).toList = parts.toList.map fun p => (p.1, a.eval p.2) := by simp
      unfold rowZero at hzs
      rw [hi] at hzs
      simp only at hzs
      by_cases h0 : n * inf.size = 0
      · have hb0 : Nat.beq (n * inf.size) 0 = true := by rw [h0]; rfl
        rw [hb0] at hzs
        simp only [cond_true, Option.some.injEq] at hzs
        subst hzs
        simp only [h0, if_true, Array.range_zero', Array.map_empty]
        have q1' : Instr.fill (fun i => some (i * inf.size, inf.size)) #[] (parts.toList.map fun p => (p.1, a.eval p.2)) = some r' := q1
        rw [hpm, q1']
        simp only [newRow, Sem.run_bind, run_newObj, Result.andThen_ok, Sem.run_pure]
        rfl
      · have hb0 : Nat.beq (n * inf.size) 0 = false := by
          cases hq : Nat.beq (n * inf.size) 0 with
          | false => rfl
          | true => exact absurd (Nat.eq_of_beq_eq_true hq) h0
        rw [hb0] at hzs
        simp only [cond_false] at hzs
        split at hzs
        · rename_i zv hzv
          cases hzs
          have hzz : (Array.range (n * inf.size)).map (fun j => zv.cells[j % zv.cells.size]!) = ((List.range (n * inf.size)).map (fun j => zv.cells[j % zv.cells.size]!)).toArray := by
            apply Array.ext'
            simp [Array.toList_range]
          simp only [h0, if_false, run_zero hi hzv, Result.andThen_ok]
          rw [hzz, hpm, q1]
          simp only [newRow, Sem.run_bind, run_newObj, Result.andThen_ok, Sem.run_pure]
          rfl
        · cases hzs
    · exact .slice k 0 n 0 n ⟨w.heap.size, 0, r'.size, inf.size⟩ (upd_self _ _ _) (Nat.le_refl _) (by show 0 + n * inf.size ≤ r'.size; omega)

/-- A struct or an array out of its parts, whatever they are. -/
def placesOf (P : Program) (t : TypeId) (i : Nat) : Option (Nat × Nat) := match P.underlying t with
  | some (.struct fs) => match fs[i]? with
    | some f => match P.info? f.type with
      | some inf => some (f.offset, inf.size)
      | none => none
    | none => none
  | some (.array _ e) => match P.info? e with
    | some inf => some (i * inf.size, inf.size)
    | none => none
  | _ => none
theorem run_places {w : World} : ∀ (l : List Field), (∀ f, f ∈ l → ∃ inf, P.info? f.type = some inf) →
    (l.mapM (fun f => (do pure (f.offset, ← sizeOf f.type) : Sem (Nat × Nat)))).run P w = .ok (l.map fun f => (f.offset, ((P.info? f.type).map (·.size)).getD 0)) w
  | [], _ => by simp
  | f :: l, h => by
    obtain ⟨inf, hi⟩ := h f List.mem_cons_self
    rw [List.mapM_cons]
    simp only [Sem.run_bind, run_size hi, Result.andThen_ok, Sem.run_pure, run_places l (fun g hg => h g (List.mem_cons_of_mem _ hg)), List.map_cons, hi, Option.map_some, Option.getD_some]
def infosB (P : Program) (t : TypeId) : Bool := match P.underlying t with
  | some (.struct fs) => fs.toList.all fun f => (P.info? f.type).isSome
  | some (.array _ e) => (P.info? e).isSome
  | _ => false
theorem does_build {t : TypeId} {parts : Array (Nat × Operand)} {ps : List (Nat × Value)} {z : Value} {cells : List Value} (hs : shapeAt ops S i = some (.build t parts, true))
    (hz : zeroOf P t = some z) (hfz : z.cells.toList.all flatB = true) (hin : infosB P t = true) (hps : evP S parts.toList = some ps) (hc : fillL (placesOf P t) ps z.cells.toList = some cells) :
    Does C P ops i S ⟨[], .agg cells.toArray, []⟩ :=
  .of_run hs fun o ho S' ρ a w hT _ hr => by
    have hps' : evP S' parts.toList = some ps := by rw [evP_like (fun p hp => hT p.2 (by simp [Op.operands]; exact ⟨p.1, by simpa using hp⟩))]; exact hps
    have hpr := evP_rel hr hps'
    obtain ⟨r', q1, q2⟩ := fill_rel ps _ z.cells.toList z.cells cells hpr (PRel.flat (ρ := ρ) hfz) hc
    have hval : VRel ρ (.agg cells.toArray) (.agg r') := .agg _ _ (by simpa using q2.1) (fun j hj => by
      obtain ⟨x, e1, e2⟩ := q2.2 j cells[j] (List.getElem?_eq_getElem (by simpa using hj))
      have : r'[j]? = some x := by simpa using e1
      obtain ⟨hj', he⟩ := Array.getElem?_eq_some_iff.1 this
      simp only [List.getElem_toArray]
      rw [he]; exact e2)
    refine ⟨_, w, ρ, .agg r', ?_, .inl rfl, hval, hr⟩
    have hpm : (Array.map (fun x : Nat × Operand => (x.1, a.eval x.2)) parts).toList = parts.toList.map fun p => (p.1, a.eval p.2) := by simp
    simp only [execOp, ho, Instr.build, Sem.run_bind, run_zeroOf hz, Result.andThen_ok]
    unfold infosB at hin
    split at hin
    · rename_i fs hu
      have hpl := run_places (P := P) (w := w) fs.toList (fun f hf => by have := List.all_eq_true.1 hin f hf; exact Option.isSome_iff_exists.1 this)
      simp only [run_underlying hu, Result.andThen_ok, Sem.run_bind]
      rw [show fs = fs.toList.toArray from rfl, List.mapM_toArray]
      simp only [Sem.run_map]
      rw [hpl]
      simp only [Result.andThen_ok]
      have hpe : (fun i => ((fs.toList.map fun f => (f.offset, ((P.info? f.type).map (·.size)).getD 0)).toArray)[i]?) = placesOf P t := by
        funext i
        unfold placesOf
        rw [hu]
        simp only [List.getElem?_toArray, List.getElem?_map]
        cases hfi : fs.toList[i]? with
        | none =>
          have : fs[i]? = none := by simpa using hfi
          simp only [this, Option.map_none]
        | some f =>
          have h1 : fs[i]? = some f := by simpa using hfi
          have hm : f ∈ fs.toList := List.mem_of_getElem? hfi
          obtain ⟨inf, hi⟩ := Option.isSome_iff_exists.1 (List.all_eq_true.1 hin f hm)
          simp only [h1, Option.map_some, hi, Option.getD_some]
      rw [hpe, hpm, q1]
      simp
    · rename_i n e hu
      obtain ⟨inf, hi⟩ := Option.isSome_iff_exists.1 hin
      have hpe : (fun i => some (i * inf.size, inf.size)) = placesOf P t := by
        funext i
        unfold placesOf
        rw [hu]
        simp only [hi]
      simp only [run_underlying hu, Result.andThen_ok, Sem.run_bind, run_size hi]
      rw [hpe, hpm, q1]
      simp
    · cases hin
theorem does_makeFunc {fn : Fn} {first captured : Array Operand} {xs cs : List Value} (hs : shapeAt ops S i = some (.makeFunc fn first captured, true)) (hx : evs S first.toList = some xs) (hc : evs S captured.toList = some cs) :
    Does C P ops i S ⟨[], .func fn xs.toArray cs.toArray, []⟩ :=
  .of_run hs fun o ho S' ρ a w hT _ hr => by
    have hx' : evs S' first.toList = some xs := by rw [evs_like (fun y hy => hT y (by simp [Op.operands]; exact .inl (by simpa using hy)))]; exact hx
    have hc' : evs S' captured.toList = some cs := by rw [evs_like (fun y hy => hT y (by simp [Op.operands]; exact .inr (by simpa using hy)))]; exact hc
    obtain ⟨e1, e2⟩ := evs_rel hr hx'
    obtain ⟨f1, f2⟩ := evs_rel hr hc'
    refine ⟨_, w, ρ, .func fn (first.map a.eval) (captured.map a.eval), by simp [execOp, ho, Instr.makeFunc], .inl rfl, ?_, hr⟩
    refine .func fn _ _ _ _ (by simpa using e1) (fun j hj => ?_) (by simpa using f1) (fun j hj => ?_)
    · obtain ⟨z, z1, z2⟩ := e2 j xs[j] (List.getElem?_eq_getElem (by simpa using hj))
      have : (first.map a.eval)[j]? = some z := by simpa using z1
      obtain ⟨hj', he⟩ := Array.getElem?_eq_some_iff.1 this
      simp only [List.getElem_toArray]
      rw [he]; exact z2
    · obtain ⟨z, z1, z2⟩ := f2 j cs[j] (List.getElem?_eq_getElem (by simpa using hj))
      have : (captured.map a.eval)[j]? = some z := by simpa using z1
      obtain ⟨hj', he⟩ := Array.getElem?_eq_some_iff.1 this
      simp only [List.getElem_toArray]
      rw [he]; exact z2
end
end Go.Proofs.Ytigllakcfdoagaa.Am
