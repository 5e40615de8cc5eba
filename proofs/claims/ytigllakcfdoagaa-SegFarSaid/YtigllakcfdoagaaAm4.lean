import Derived.Test.YtigllakcfdoagaaAm3
import Derived.Laws.StructEq
import Derived.ChangeKeysEq
namespace Go.Proofs.Ytigllakcfdoagaa.Am
open Go

/-! ### 13. Loops round by round -/
section
variable {C : Ctx} {P : Program} {S S1 : St} {Q : Exit → St → Prop}
def AL (C : Ctx) (P : Program) (x : Code) (S : St) (Q : Exit → St → Prop) : Prop := ∀ ρ a w, Rel C ρ S a w → ∀ (b : Frame) (k : List Item) (cs : List Frame),
  ∃ e a' w', Lift C Q e a' w' ∧ Arrives P (lone (b.at a (.code x :: .inLoop x :: k)) cs w) b k cs e a' w'
theorem aw_rounds {c x : Code} (hc : c = .loop x) (h : AL C P x S Q) : AW C P c S Q := by
  subst hc
  intro ρ a w hr b k cs
  obtain ⟨e, a', w', h1, h2⟩ := h ρ a w hr b k cs
  exact ⟨e, a', w', h1, .of_steps (.one step_loop) h2⟩
theorem al_round {x : Code} (h : AW C P x S (thenQ (fun S' => AL C P x S' Q) Q)) : AL C P x S Q := by
  intro ρ a w hr b k cs
  obtain ⟨e, a1, w1, ⟨ρ', S', h1, h2⟩, harr⟩ := h ρ a w hr b (.inLoop x :: k) cs
  cases e with
  | normal =>
    obtain ⟨e2, a2, w2, hq2, harr2⟩ := h1 ρ' a1 w1 h2 b k cs
    exact ⟨e2, a2, w2, hq2, .of_steps (Steps.trans harr (.one step_inLoop)) harr2⟩
  | exit id => exact ⟨_, a1, w1, ⟨ρ', S', h1, h2⟩, .pass (x := .inLoop x) rfl (fun _ _ => .inl (by simp)) harr⟩
  | goto l => exact ⟨_, a1, w1, ⟨ρ', S', h1, h2⟩, .pass (x := .inLoop x) rfl (fun _ _ => .inl (by simp)) harr⟩
  | ret => exact ⟨_, a1, w1, ⟨ρ', S', h1, h2⟩, .pass (x := .inLoop x) rfl (fun _ _ => .inl (by simp)) harr⟩
  | panic ch => exact ⟨_, a1, w1, ⟨ρ', S', h1, h2⟩, .pass (x := .inLoop x) rfl (fun _ _ => .inl (by simp)) harr⟩
  | outgrown => exact ⟨_, a1, w1, ⟨ρ', S', h1, h2⟩, .pass (x := .inLoop x) rfl (fun _ _ => .inl (by simp)) harr⟩
theorem al_weak {x : Code} (hw : Weak C S S1) (h : AL C P x S1 Q) : AL C P x S Q := fun ρ a w hr => let ⟨ρ', h'⟩ := hw ρ a w hr; h ρ' a w h'
end

/-! ### 14. '==' of structs and arrays -/
def partB (P : Program) (t : TypeId) (cs : Array Value) (off : Nat) : Option Value := match P.info? t with
  | some i => match aggB P t with
    | some true => some (.agg (cs.extract off (off + i.size)))
    | some false => cs[off]?
    | none => none
  | none => none
theorem partB_run {P : Program} {t : TypeId} {cs : Array Value} {off : Nat} {v : Value} (h : partB P t cs off = some v) (w : World) : (part t cs off).run P w = .ok v w := by
  unfold partB at h
  split at h
  · rename_i inf hi
    split at h
    · rename_i ha; cases h
      simp only [part, Sem.run_bind, run_agg ha, Result.andThen_ok, Sem.run_ite, if_true, run_size hi, Sem.run_pure]
    · rename_i ha
      simp only [part, Sem.run_bind, run_agg ha, Result.andThen_ok, Sem.run_ite, Bool.false_eq_true, if_false, h, Sem.run_pure]
    · cases h
  · cases h
def eqT (P : Program) : Nat → TypeId → Value → Value → Option Bool
  | 0, _, _, _ => none
  | d + 1, t, x, y => match P.underlying t with
    | some .bool => match x, y with
      | .bool a, .bool b => some (a == b)
      | _, _ => none
    | some (.int _) => match x, y with
      | .int k a, .int k' b => match decEq k k' with
        | isTrue _ => some (a == b)
        | isFalse _ => none
      | _, _ => none
    | some .string => match x, y with
      | .string a, .string b => some (a.toList == b.toList)
      | _, _ => none
    | some (.struct fs) => match x, y with
      | .agg xs, .agg ys => bif P.stoodInHeld t then none else fs.toList.foldr (fun f r => match r, partB P f.type xs f.offset, partB P f.type ys f.offset with
          | some r, some a, some b => match eqT P d f.type a b with
            | some e => bif f.name == "_" then none else some (e && r)
            | none => none
          | _, _, _ => none) (some true)
      | _, _ => none
    | some (.array n e) => match x, y, P.info? e with
      | .agg xs, .agg ys, some i => (List.range n).foldr (fun j r => match r, partB P e xs (j * i.size), partB P e ys (j * i.size) with
          | some r, some a, some b => match eqT P d e a b with
            | some q => some (q && r)
            | none => none
          | _, _, _ => none) (some true)
      | _, _, _ => none
    | _ => none

theorem eqT_run {P : Program} : ∀ (d : Nat) (t : TypeId) (x y : Value) (b : Bool), eqT P d t x y = some b → ∀ w, (Op.equalIn d t x y).run P w = .ok b w
  | 0, _, _, _, _, h, _ => by cases h
  | d + 1, t, x, y, b, h, w => by
    unfold eqT at h
    split at h
    · rename_i hu
      split at h
      · cases h; exact run_equalIn_bool' w d t _ _ hu
      · cases h
    · rename_i k' hu
      split at h
      · rename_i k a k2 c
        split at h
        · rename_i e _; cases h; subst e; exact run_equalIn_int w d t _ _ _ _ hu
        · cases h
      · cases h
    · rename_i hu
      split at h
      · cases h; exact run_equalIn_string w d t _ _ hu
      · cases h
    · rename_i fs hu
      split at h
      · rename_i xs ys
        cases hp : P.stoodInHeld t with
        | true => rw [hp] at h; cases h
        | false =>
          rw [hp] at h
          simp only [cond_false] at h
          have hf : P.fieldsOf t = fs := by simp [Program.fieldsOf, hu]
          rw [run_equalIn_struct w d t xs ys (by rw [hf]; exact hu) hp, hf]
          clear hu hf hp
          generalize fs.toList = l at h
          induction l generalizing b with
          | nil => cases h; simp [Op.eqFields]
          | cons f l ih =>
            simp only [List.foldr_cons] at h
            split at h
            · rename_i r a c hr ha hc
              split at h
              · rename_i e he
                cases hn : (f.name == "_") with
                | true => rw [hn] at h; cases h
                | false =>
                  rw [hn] at h
                  simp only [cond_false, Option.some.injEq] at h
                  have hn' : f.name ≠ "_" := by simpa using hn
                  have h1 := ih r hr
                  have h2 := eqT_run d f.type a c e he w
                  simp only [Op.eqFields, if_pos hn', Sem.run_bind, partB_run ha, partB_run hc, h2, Result.andThen_ok]
                  subst h
                  cases e
                  · simp
                  · simpa using h1
              · cases h
            · cases h
      · cases h
    · rename_i n e hu
      split at h
      · rename_i xs ys i hi
        rw [run_equalIn_array w d xs ys hu hi]
        have hc : P.cellsOf e = i.size := by simp [Program.cellsOf, hi]
        rw [hc]
        generalize List.range n = l at h
        induction l generalizing b with
        | nil => cases h; simp [Op.eqItems]
        | cons j l ih =>
          simp only [List.foldr_cons] at h
          split at h
          · rename_i r a c hr ha hc
            split at h
            · rename_i q he
              simp only [Option.some.injEq] at h
              have h1 := ih r hr
              have h2 := eqT_run d e a c q he w
              simp only [Op.eqItems, Sem.run_bind, partB_run ha, partB_run hc, h2, Result.andThen_ok]
              subst h
              cases q
              · simp
              · simpa using h1
            · cases h
          · cases h
      · cases h
    · cases h

section
variable {C : Ctx} {P : Program} {ops : Array Oper} {i : Nat} {S : St}
theorem does_val {r : List Nat} {v v' : Value} {ws : List (Nat × Cell)} (h : Does C P ops i S ⟨r, v, ws⟩) (e : v = v') : Does C P ops i S ⟨r, v', ws⟩ := e ▸ h
theorem does_bool {r : List Nat} {b b' : Bool} {ws : List (Nat × Cell)} (h : Does C P ops i S ⟨r, .bool b, ws⟩) (e : b = b') : Does C P ops i S ⟨r, .bool b', ws⟩ := e ▸ h
theorem does_int {r : List Nat} {k : IntKind} {n n' : Int} {ws : List (Nat × Cell)} (h : Does C P ops i S ⟨r, .int k n, ws⟩) (e : n = n') : Does C P ops i S ⟨r, .int k n', ws⟩ := e ▸ h

theorem does_eql {t t2 : TypeId} {x y : Operand} {xs ys : Array Value} {b : Bool} (hs : shapeAt ops S i = some (.binOp .eql t x y t2, true)) (hx : ev S x = some (.agg xs)) (hy : ev S y = some (.agg ys))
    (fx : flatB (.agg xs) = true) (fy : flatB (.agg ys) = true) (hg : P.eqGuardType P.depth t = false) (hq : eqT P 10000 t (.agg xs) (.agg ys) = some b) : Does C P ops i S ⟨[], .bool b, []⟩ :=
  .of_run hs fun o ho S' ρ a w hT _ hr => by
    have h1 := (ev_rel hr (by rw [hT x (by simp [Op.operands])]; exact hx)).eq_of_only (only_flat fx)
    have h2 := (ev_rel hr (by rw [hT y (by simp [Op.operands])]; exact hy)).eq_of_only (only_flat fy)
    refine ⟨_, w, ρ, .bool b, ?_, .inl rfl, .bool b, hr⟩
    simp only [execOp, ho, h1, h2, Sem.run_bind, run_eqGuard_agg w .eql t x y xs ys hg, Result.andThen_ok, run_eql_struct, eqT_run 10000 t _ _ b hq, Sem.run_pure]
theorem does_neq {t t2 : TypeId} {x y : Operand} {xs ys : Array Value} {b : Bool} (hs : shapeAt ops S i = some (.binOp .neq t x y t2, true)) (hx : ev S x = some (.agg xs)) (hy : ev S y = some (.agg ys))
    (fx : flatB (.agg xs) = true) (fy : flatB (.agg ys) = true) (hg : P.eqGuardType P.depth t = false) (hq : eqT P 10000 t (.agg xs) (.agg ys) = some b) : Does C P ops i S ⟨[], .bool (!b), []⟩ :=
  .of_run hs fun o ho S' ρ a w hT _ hr => by
    have h1 := (ev_rel hr (by rw [hT x (by simp [Op.operands])]; exact hx)).eq_of_only (only_flat fx)
    have h2 := (ev_rel hr (by rw [hT y (by simp [Op.operands])]; exact hy)).eq_of_only (only_flat fy)
    refine ⟨_, w, ρ, .bool (!b), ?_, .inl rfl, .bool _, hr⟩
    simp only [execOp, ho, h1, h2, Sem.run_bind, run_eqGuard_agg w .neq t x y xs ys hg, Result.andThen_ok, run_neq_struct, eqT_run 10000 t _ _ b hq, Sem.run_pure]

/-! ### 15. Slices -/
theorem does_len {x : Operand} {t : TypeId} {k off n c : Nat} (hs : shapeAt ops S i = some (.call ⟨.builtin .len, #[x], #[t]⟩, true)) (hx : ev S x = some (.slice (some ⟨k, off, none⟩) n c))
    (ht : slcB P t = true) : Does C P ops i S ⟨[], .int .i64 n, []⟩ :=
  .of_run hs fun o ho S' ρ a w hT _ hr => by
    have h1 := ev_rel hr (by rw [hT x (by simp [Op.operands, Call.operands])]; exact hx)
    generalize hax : a.eval x = ax at h1
    unfold slcB at ht
    split at ht
    · rename_i e hu
      refine ⟨_, w, ρ, .int .i64 n, ?_, .inl rfl, .int _ _, hr⟩
      cases h1 <;> simp [execOp, ho, resolve, hax, invoke, builtin, Builtin.len_, run_underlying hu, goInt]
    · cases ht
theorem does_lenNil {x : Operand} {t : TypeId} (hs : shapeAt ops S i = some (.call ⟨.builtin .len, #[x], #[t]⟩, true)) (hx : ev S x = some (.slice none 0 0))
    (ht : slcB P t = true) : Does C P ops i S ⟨[], .int .i64 0, []⟩ :=
  .of_run hs fun o ho S' ρ a w hT _ hr => by
    have h1 := ev_rel hr (by rw [hT x (by simp [Op.operands, Call.operands])]; exact hx)
    generalize hax : a.eval x = ax at h1
    unfold slcB at ht
    split at ht
    · rename_i e hu
      refine ⟨_, w, ρ, .int .i64 0, ?_, .inl rfl, .int _ _, hr⟩
      cases h1; simp [execOp, ho, resolve, hax, invoke, builtin, Builtin.len_, run_underlying hu, goInt]
    · cases ht

/-- x[l:h], both within the length. -/
def boundV (d : Nat) (S : St) : Option Operand → Option Int
  | none => some d
  | some x => match ev S x with
    | some (.int _ n) => some n
    | _ => none
theorem sliceBound_run {w : World} {kd : IntKind} {l : Int} {y : Nat} {code : BoundsCode} (h0 : 0 ≤ l) (h1 : l ≤ y) : (Instr.sliceBound (.int kd l) y code).run P w = .ok l.toNat w := by
  unfold Instr.sliceBound
  simp only [asIntOf, Sem.run_bind, Sem.run_pure, Result.andThen_ok, Sem.run_ite, if_pos (And.intro h0 h1)]
theorem bounds_run {w : World} {n cap : Nat} {lo hi : Option Value} {l h : Int} (hlo : (lo = none ∧ l = 0) ∨ ∃ kd, lo = some (.int kd l)) (hhi : (hi = none ∧ h = n) ∨ ∃ kd, hi = some (.int kd h))
    (h0 : 0 ≤ l) (h1 : l ≤ h) (h2 : h ≤ n) (hc : n ≤ cap) : (Instr.sliceBounds true n cap lo hi none).run P w = .ok (l.toNat, h.toNat, cap) w := by
  unfold Instr.sliceBounds
  rcases hlo with ⟨rfl, rfl⟩ | ⟨kd, rfl⟩ <;> rcases hhi with ⟨rfl, rfl⟩ | ⟨kd', rfl⟩
  · simp
  · simp only [Sem.run_bind, Sem.run_pure, Result.andThen_ok, sliceBound_run (P := P) (w := w) (show 0 ≤ h by omega) (show h ≤ (cap : Int) by omega)]; rfl
  · simp only [Sem.run_bind, Sem.run_pure, Result.andThen_ok, sliceBound_run (P := P) (w := w) h0 h1]; simp
  · simp only [Sem.run_bind, Sem.run_pure, Result.andThen_ok, sliceBound_run (P := P) (w := w) (show 0 ≤ h by omega) (show h ≤ (cap : Int) by omega)]
    rw [sliceBound_run (P := P) (w := w) h0 (show l ≤ (h.toNat : Int) by omega)]; rfl
theorem does_slice {t : TypeId} {x : Operand} {lo hi : Option Operand} {k off n c z : Nat} {l h : Int} {m : Nat} {b : Blk} (hs : shapeAt ops S i = some (.slice t x lo hi none, true))
    (hx : ev S x = some (.slice (some ⟨k, off, none⟩) n c)) (ht : slcB P t = true) (hz : elemSize P t = some z) (hlo : boundV 0 S lo = some l) (hhi : boundV n S hi = some h)
    (hH : S.H k = .live b) (hst : b.step = z) (h0 : 0 ≤ l) (h1 : l ≤ h) (h2 : h ≤ n) (hm : (m : Int) = h - l) : Does C P ops i S ⟨[k], .slice (some ⟨k, off + l.toNat * z, none⟩) m 0, []⟩ :=
  .of_run hs fun o ho S' ρ a w hT hH' hr => by
    have hrx := ev_rel hr (by rw [hT x (by simp [Op.operands])]; exact hx)
    generalize hax : a.eval x = ax at hrx
    have bnd : ∀ (d : Nat) (x' : Operand) (q : Int), (x' ∈ (Op.slice t x lo hi none).operands.toList) → boundV d S (some x') = some q → ∃ kd, a.eval x' = .int kd q := fun d x' q hm e => by
      simp only [boundV] at e
      cases hev : ev S x' with
      | none => rw [hev] at e; cases e
      | some u =>
        rw [hev] at e
        cases u <;> simp at e
        subst e
        have := ev_rel hr (v := .int _ _) (by rw [hT x' hm]; exact hev)
        generalize a.eval x' = q at this
        cases this; exact ⟨_, rfl⟩
    have lo1 : (lo.map a.eval = none ∧ l = 0) ∨ ∃ kd, lo.map a.eval = some (.int kd l) := by
      cases lo with
      | none => simp only [boundV, Option.some.injEq] at hlo; exact .inl ⟨rfl, by omega⟩
      | some x' => obtain ⟨kd, e⟩ := bnd 0 x' l (by simp [Op.operands]) hlo; exact .inr ⟨kd, by simp [e]⟩
    have hi1 : (hi.map a.eval = none ∧ h = n) ∨ ∃ kd, hi.map a.eval = some (.int kd h) := by
      cases hi with
      | none => simp only [boundV, Option.some.injEq] at hhi; exact .inl ⟨rfl, hhi.symm⟩
      | some x' => obtain ⟨kd, e⟩ := bnd n x' h (by simp [Op.operands]) hhi; exact .inr ⟨kd, by simp [e]⟩
    unfold slcB at ht
    split at ht
    · rename_i e hu
      unfold elemSize at hz
      rw [hu] at hz
      simp only [Option.map_eq_some_iff] at hz
      obtain ⟨inf, hinf, rfl⟩ := hz
      have run : ∀ (A : Option Addr) (cap : Nat), n ≤ cap → ax = .slice A n cap → (execOp a.eval o).run P w = .ok (.value (.slice (if cap = l.toNat then A else A.map (·.add (l.toNat * inf.size))) (h.toNat - l.toNat) (cap - l.toNat))) w := by
        intro A cap hcap he
        simp only [execOp, ho, hax, he, Instr.sliceAt, Sem.run_bind, run_underlying hu, Result.andThen_ok, Instr.slice, Option.map_none, bounds_run (P := P) (w := w) lo1 hi1 h0 h1 h2 hcap, run_size hinf, Sem.run_pure]
      have hm' : h.toNat - l.toNat = m := by omega
      rw [hm'] at run
      cases hrx with
      | slice _ _ _ _ cap sp hk hc hss =>
        have hrun := run (some ⟨sp.block, sp.off + off, none⟩) cap hc rfl
        by_cases hcl : cap = l.toNat
        · rw [if_pos hcl] at hrun
          have m0 : m = 0 := by omega
          subst m0
          refine ⟨_, w, ρ, _, hrun, .inl rfl, ?_, hr⟩
          rw [show cap - l.toNat = 0 by omega]
          exact .slice0 k _ 0 _
        · rw [if_neg hcl] at hrun
          refine ⟨_, w, ρ, _, hrun, .inl rfl, ?_, hr⟩
          simp only [Option.map_some, add_at, Nat.add_assoc]
          obtain ⟨sp', e1, e2⟩ := hr.heap.live k b (by rw [hH' k (by simp)]; exact hH)
          rw [hk] at e1; cases e1
          have est : sp.step = inf.size := by rw [e2.1, hst]
          refine .slice k (off + l.toNat * inf.size) m 0 (cap - l.toNat) sp hk (by omega) ?_
          rw [est] at hss ⊢
          have : l.toNat * inf.size + (cap - l.toNat) * inf.size = cap * inf.size := by rw [← Nat.add_mul]; congr 1; omega
          omega
      | slice0 _ _ _ A =>
        have hrun := run A 0 (Nat.le_refl _) rfl
        have l0 : l.toNat = 0 := by omega
        have m0 : m = 0 := by omega
        subst m0
        rw [l0] at hrun
        simp only [if_true, Nat.sub_zero] at hrun
        exact ⟨_, w, ρ, _, hrun, .inl rfl, .slice0 k _ 0 _, hr⟩
    · cases ht
end
end Go.Proofs.Ytigllakcfdoagaa.Am
