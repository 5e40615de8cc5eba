import Derived.Test.YtngmegnaohmapaaDoorAm19
import Derived.Lib.AppendZeros
namespace Go.Proofs.YtngmegnaohmapaaDoor.Am
open Go
set_option linter.unusedVariables false
set_option linter.unusedSimpArgs false
/-! ### 33. A pair written at a place of a row of pairs; a bool of a row of bools -/
def boolv (b : Bool) : Value := .bool b
theorem set_pair {ps : List (Int × Int)} {j off : Nat} {x y : Int} (ho : off = 2 * j) (hj : j < ps.length) : setL (ps.flatMap ptc) off [.int .i64 x, .int .i64 y] = (ps.set j (x, y)).flatMap ptc := by
  subst ho
  simp only [setL]
  induction ps generalizing j with
  | nil => simp at hj
  | cons p r ih =>
    cases j with
    | zero => simp [ptc]
    | succ j =>
      have h := ih (j := j) (by simpa using hj)
      rw [List.set_cons_succ, List.flatMap_cons, List.flatMap_cons, ← h]
      rw [show 2 * (j + 1) = 2 * j + 1 + 1 by omega, show 2 * j + 1 + 1 + 1 = 2 * j + 1 + 1 + 1 by rfl]
      simp [ptc]
theorem set_map {α : Type} {f : α → Value} {xs : List α} {j : Nat} {a : α} {v : Value} (hv : f a = v) : setL (xs.map f) j [v] = (xs.set j a).map f := by
  subst hv
  simp [setL, List.map_set]
theorem plain_pairs (ps : List (Int × Int)) : plainAll (ps.flatMap ptc) = true := by
  unfold plainAll
  rw [List.all_eq_true]
  intro v hv
  obtain ⟨p, _, hp⟩ := List.mem_flatMap.1 hv
  simp only [ptc, List.mem_cons, List.not_mem_nil, or_false] at hp
  rcases hp with rfl | rfl <;> rfl
theorem cut_pairs {ps : List (Int × Int)} {off j m k : Nat} (ho : off = 2 * j) (hm : m = 2 * k) : ((ps.flatMap ptc).drop off).take m = ((ps.drop j).take k).flatMap ptc := by
  subst ho hm
  have hd : ∀ (n : Nat) (l : List (Int × Int)), (l.flatMap ptc).drop (2 * n) = (l.drop n).flatMap ptc := by
    intro n
    induction n with
    | zero => intro l; rfl
    | succ n ih =>
      intro l
      cases l with
      | nil => simp
      | cons p r => rw [List.flatMap_cons, show 2 * (n + 1) = 2 * n + 1 + 1 by omega, List.drop_succ_cons, ← ih r]; simp [ptc]
  have ht : ∀ (n : Nat) (l : List (Int × Int)), (l.flatMap ptc).take (2 * n) = (l.take n).flatMap ptc := by
    intro n
    induction n with
    | zero => intro l; simp
    | succ n ih =>
      intro l
      cases l with
      | nil => simp
      | cons p r => rw [List.flatMap_cons, show 2 * (n + 1) = 2 * n + 1 + 1 by omega, List.take_succ_cons, List.flatMap_cons, ← ih r]; simp [ptc]
  rw [hd, ht]
theorem plain_cut {l : List Value} (h : plainAll l = true) (a b : Nat) : plainAll ((l.drop a).take b) = true := by
  unfold plainAll at *
  rw [List.all_eq_true] at *
  exact fun v hv => h v (List.mem_of_mem_drop (List.mem_of_mem_take hv))
section
variable {C : Ctx} {P : Program} {ops : Array Oper} {S : St} {i : Nat}
/-! ### 34. append of a part of a row -/
theorem does_apg (N k' e z bt k n k2 off2 m : Nat) (b b2 : Blk) (l : List Value) (h1 : apyAt P ops S i = some (e, z, bt, some (.slice (some ⟨k, 0, none⟩) n 0), some (.slice (some ⟨k2, off2, none⟩) m 0)))
    (hH : S.H k = .live b) (hH2 : S.H k2 = .live b2) (hK : S.H k' = .fresh) (hz : (b.own && Nat.beq b.elem e && Nat.beq b.step z) = true) (hp : plainAll b2.cells = true) (hn : n * z ≤ b.cells.length) (ho : off2 + m * z ≤ b2.cells.length)
    (hc : 1 ≤ m ∨ (1 ≤ n ∧ b.cells.length = n * z)) (hB : (n + m) * bt ≤ 140737488355328) (hM : n + m ≤ 4611686018427387904) (hl : b.cells.take (n * z) ++ (b2.cells.drop off2).take (m * z) = l) (hN : n + m = N) :
    Does C P ops i S ⟨[k, k2, k'], .slice (some ⟨k', 0, none⟩) N 0, [(k, .gone), (k', .live ⟨l, e, true, z⟩)]⟩ := by
  subst hN
  unfold apyAt at h1
  split at h1
  · rename_i x y t e' inf zv hs
    simp only [Option.some.injEq, Prod.mk.injEq] at h1
    obtain ⟨rfl, rfl, rfl, hx, hy⟩ := h1
    have hz' := hz
    simp only [Bool.and_eq_true] at hz
    obtain ⟨⟨z1, z2⟩, z3⟩ := hz
    rcases Nat.eq_zero_or_pos m with rfl | hpos
    · rcases hc with hc | ⟨hn1, hc⟩
      · omega
      · rw [Nat.zero_mul, List.take_zero, List.append_nil, List.take_of_length_le (by omega)] at hl
        subst hl
        exact does_append0 hs hx hy hH hK hn1 hz'
    · have h := does_append (C := C) (P := P) (ops := ops) (S := S) (i := i) hs hx hy hH hH2 hK (by
        simp only [Bool.and_eq_true]
        exact ⟨⟨⟨⟨⟨⟨z1, z2⟩, z3⟩, plain_cut hp _ _⟩, Nat.ble_eq_true_of_le (by omega)⟩, Nat.ble_eq_true_of_le ho⟩, Nat.ble_eq_true_of_le hpos⟩) hB hM
      rw [List.drop_zero, hl] at h
      exact h
  · cases h1
/-! ### 35. append of so many zero values to nil: the room alone is told -/
def apzAt (P : Program) (ops : Array Oper) (S : St) (i : Nat) : Option (Operand × Operand × TypeId × TypeId × TypeId × IntKind × TypeInfo × Value) := match shapeAt ops S i with
  | some (.call c, true) => match c.callee with
    | .builtin b => match b with
      | .append => match c.args.toList, c.argTypes.toList with
        | [x, y], [t, t'] => match sliceElem P t with
          | some e => match P.underlying t' with
            | some (.int kn) => match P.info? e with
              | some inf => match inf.zero with
                | some z => bif (Nat.beq z.cells.size inf.size && Nat.ble 1 inf.size) then some (x, y, t, t', e, kn, inf, z) else none
                | none => none
              | none => none
            | _ => none
          | none => none
        | _, _ => none
      | _ => none
    | _ => none
  | _ => none
theorem apzAt_spec {x y : Operand} {t t' e : TypeId} {kn : IntKind} {inf : TypeInfo} {z : Value} (h : apzAt P ops S i = some (x, y, t, t', e, kn, inf, z)) :
    shapeAt ops S i = some (.call ⟨.builtin .append, #[x, y], #[t, t']⟩, true) ∧ P.underlying t = some (.slice e) ∧ P.underlying t' = some (.int kn) ∧ P.info? e = some inf ∧ inf.zero = some z ∧ z.cells.size = inf.size ∧ 0 < inf.size := by
  unfold apzAt at h
  split at h
  · rename_i c hsh
    obtain ⟨cal, ars, ats⟩ := c
    simp only at h
    split at h
    · split at h
      · split at h
        · rename_i x' y' t1 t2 hars hats
          split at h
          · rename_i e' he
            split at h
            · rename_i kn' hkn
              split at h
              · rename_i inf' hi
                split at h
                · rename_i z' hz
                  obtain ⟨hq, hh⟩ := bif_some h
                  cases hh
                  rw [Bool.and_eq_true] at hq
                  have ea : ars = #[x, y] := by rw [← Array.toArray_toList (xs := ars), hars]
                  have et : ats = #[t, t'] := by rw [← Array.toArray_toList (xs := ats), hats]
                  subst ea; subst et
                  exact ⟨hsh, sliceElem_spec he, hkn, hi, hz, Nat.eq_of_beq_eq_true hq.1, Nat.le_of_ble_eq_true hq.2⟩
                · cases h
              · cases h
            · cases h
          · cases h
        · cases h
      · cases h
    · cases h
  · cases h
def apzzAt (P : Program) (ops : Array Oper) (S : St) (i : Nat) : Option (Nat × Nat × Nat × Option Value × Option Value) := match apzAt P ops S i with
  | some (x, y, _, _, e, _, inf, _) => some (e, inf.size, inf.bytes, ev S x, ev S y)
  | none => none
theorem does_room (k' e z bt n : Nat) (n' : Int) (kd : IntKind) (h1 : apzzAt P ops S i = some (e, z, bt, some (.slice none 0 0), some (.int kd n'))) (hK : S.H k' = .fresh) (hn : n' = (n : Int)) (h0 : 1 ≤ n)
    (hB : n * bt ≤ 140737488355328) (hM : n ≤ 4611686018427387904) :
    Does C P ops i S ⟨[k'], .slice (some ⟨k', 0, none⟩) n 0, [(k', .live ⟨[], e, true, z⟩)]⟩ := by
  subst hn
  unfold apzzAt at h1
  split at h1
  · rename_i x y t t' e' kn inf zv hs
    simp only [Option.some.injEq, Prod.mk.injEq] at h1
    obtain ⟨rfl, rfl, rfl, hx, hy⟩ := h1
    obtain ⟨hsh, hu, htn, hi, hzv, hzs, hpos⟩ := apzAt_spec hs
    refine .of_run hsh fun o ho S' ρ a w hT hH' hr => ?_
    have hrx := ev_rel hr (by rw [hT x (by simp [Op.operands, Call.operands])]; exact hx)
    have hry := ev_rel hr (by rw [hT y (by simp [Op.operands, Call.operands])]; exact hy)
    generalize hax : a.eval x = ax at hrx
    generalize hay : a.eval y = ay at hry
    cases hrx with
    | nilSlice =>
      cases hry with
      | int =>
        have hrun := Lib.run_append_nil_zeros (P := P) w t t' o.type _ inf zv kd kn hu htn hi hzv n (by omega) hpos (by omega) (by omega)
        obtain ⟨hle, hrel⟩ := Rel.grown hr (by rw [hH' k' (by simp)]; exact hK) (us := []) (vs := []) rfl (fun j u hu => by simp at hu) (Builtin.zeroCells zv.cells n ++ Builtin.zeroCells zv.cells (grownCap w n 0 e' - n)) e' inf.size
        have hge := grownCap_ge w n 0 e'
        have ee : (#[] : Array Value) ++ (Builtin.zeroCells zv.cells n ++ Builtin.zeroCells zv.cells (grownCap w n 0 e' - n)) = Builtin.zeroCells zv.cells n ++ Builtin.zeroCells zv.cells (grownCap w n 0 e' - n) := Array.empty_append
        rw [show ([] : List Value).toArray = #[] from rfl, ee] at hrel hle
        refine ⟨_, _, _, .slice (some ⟨w.heap.size, 0, none⟩) n (grownCap w n 0 e'), ?_, .inl rfl, ?_, hrel⟩
        · have ev1 : (#[x, y] : Array Operand).map a.eval = #[.slice none 0 0, .int kd n] := by simp [hax, hay]
          simp only [execOp, ho, resolve, ev1, Sem.run_bind, Sem.run_pure, Result.andThen_ok, invoke, builtin, hrun]
        · refine .slice k' 0 n 0 (grownCap w n 0 e') _ (upd_self _ _ _) hge ?_
          simp only [Array.size_append, size_zeroCells, hzs, ← Nat.add_mul, Nat.zero_add]
          exact Nat.mul_le_mul_right _ (by omega)
  · cases h1
end
end Go.Proofs.YtngmegnaohmapaaDoor.Am

namespace Go.Proofs.YtngmegnaohmapaaDoor.Am
open Go
set_option linter.unusedVariables false
set_option linter.unusedSimpArgs false
section
variable {C : Ctx} {P : Program} {ops : Array Oper} {S : St} {i : Nat}
theorem RenV.funcL {σ : Nat → Nat} {p : Nat → Prop} {fn : Fn} {xs ys cs ds : Array Value} (h : RenL σ p xs.toList ys.toList) (h' : RenL σ p cs.toList ds.toList) : RenV σ p (.func fn xs cs) (.func fn ys ds) :=
  .func fn xs ys cs ds (by simpa using h.1) (fun i hi => h.2 i _ _ (by simp) (by have := h.1; simp at this; simp)) (by simpa using h'.1) (fun i hi => h'.2 i _ _ (by simp) (by have := h'.1; simp at this; simp))
/-! ### 36. A slice that is not empty is not nil -/
def slnAt (P : Program) (ops : Array Oper) (S : St) (i : Nat) : Option (Option Value × Option Value) := match shapeAt ops S i with
  | some (.binOp op t x y _, true) => match op with
    | .eql => match sliceElem P t with
      | some _ => some (ev S x, ev S y)
      | none => none
    | _ => none
  | _ => none
theorem does_sln {k off n c : Nat} (h1 : slnAt P ops S i = some (some (.slice (some ⟨k, off, none⟩) n c), some (.slice none 0 0))) (hn : 1 ≤ n) : Does C P ops i S ⟨[], .bool false, []⟩ := by
  unfold slnAt at h1
  split at h1
  · rename_i op t x y t2 hs
    split at h1
    · split at h1
      · rename_i e he
        simp only [Option.some.injEq, Prod.mk.injEq] at h1
        obtain ⟨hx, hy⟩ := h1
        have hu := sliceElem_spec he
        refine .of_run hs fun o ho S' ρ a w hT hH' hr => ?_
        have hrx := ev_rel hr (by rw [hT x (by simp [Op.operands])]; exact hx)
        have hry := ev_rel hr (by rw [hT y (by simp [Op.operands])]; exact hy)
        generalize hax : a.eval x = ax at hrx
        generalize hay : a.eval y = ay at hry
        cases hry with
        | nilSlice =>
          cases hrx with
          | slice0 => omega
          | slice _ _ _ _ cap sp hk hc1 hs1 =>
            refine ⟨_, w, ρ, .bool false, ?_, .inl rfl, .bool _, hr⟩
            have hg : (eqGuard .eql t x y (.slice (some ⟨sp.block, sp.off + off, none⟩) n cap) (.slice none 0 0)).run P w = .ok () w := by
              simp [eqGuard]
            have he : (Op.equal t (.slice (some ⟨sp.block, sp.off + off, none⟩) n cap) (.slice none 0 0)).run P w = .ok false w := by
              have key : ∀ d : Nat, (Op.equalIn (d + 1) t (.slice (some ⟨sp.block, sp.off + off, none⟩) n cap) (.slice none 0 0)).run P w = .ok false w := fun d => by simp [Op.equalIn, run_underlying hu]
              exact key 9999
            simp [execOp, ho, hax, hay, hg, binOp, he]
      · cases h1
    · cases h1
  · cases h1
end
end Go.Proofs.YtngmegnaohmapaaDoor.Am

namespace Go.Proofs.YtngmegnaohmapaaDoor.Am
open Go
set_option linter.unusedVariables false
set_option linter.unusedSimpArgs false
/-! ### 36. make of a row of bools: its length is told by a number -/
theorem made_bools (n : Nat) : (madeCells (Value.bool false).cells (n * 1)).toList = (List.replicate n false).map boolv := by
  unfold madeCells
  rw [Nat.mul_one, Array.toList_map, Array.toList_range, List.map_replicate]
  apply List.ext_getElem
  · simp
  · intro i h1 h2
    simp [Value.cells, boolv, Nat.mod_one]
theorem flat_bools (l : List Bool) : (l.map boolv).all flatB = true := by
  rw [List.all_eq_true]
  intro v hv
  obtain ⟨b, _, rfl⟩ := List.mem_map.1 hv
  rfl
end Go.Proofs.YtngmegnaohmapaaDoor.Am

