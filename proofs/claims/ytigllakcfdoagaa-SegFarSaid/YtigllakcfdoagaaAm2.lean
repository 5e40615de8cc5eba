import Derived.Test.YtigllakcfdoagaaAm1
import Derived.Laws.Cells
import Derived.Laws.Entries
import Derived.Laws.Rows
namespace Go.Proofs.Ytigllakcfdoagaa.Am
open Go

/-! ### 3. A region's steps in a row -/
section
variable (C : Ctx) (P : Program) (ops : Array Oper)
inductive Runs : Nat → St → List Step → St → Prop
  | nil (i : Nat) (S : St) : Runs i S [] S
  | cons {i : Nat} {S : St} {s : Step} {d : Option Tmp} {l : List Step} {S' : St} (hd : dstOf ops i = d) (h : Does C P ops i S s) (r : Runs (i + 1) (S.put d s.eff) l S') : Runs i S (s :: l) S'

theorem runs_spec {steps : List Step} {S0 : St} : ∀ {i : Nat} {S : St} {l : List Step} {S' : St}, Runs C P ops i S l S' → S = stD ops steps (fun _ => true) S0 i →
    (∀ j, l[j]? = steps[i + j]?) → (∀ j, j < l.length → Does C P ops (i + j) (stD ops steps (fun _ => true) S0 (i + j)) (steps.getD (i + j) default)) ∧
      S' = stD ops steps (fun _ => true) S0 (i + l.length) := by
  intro i S l S' h
  induction h with
  | nil i S => intro e _; exact ⟨fun j hj => by simp at hj, e⟩
  | @cons i S s d l S' hd h r ih =>
    intro e hl
    have h0 : steps[i]? = some s := by have := hl 0; simpa using this.symm
    have hs : steps.getD i default = s := by simp [List.getD, h0]
    have he : effOf steps i = s.eff := by unfold effOf; rw [hs]
    have := ih (by simp only [stD, cond_true, ← e, hd, he]) (fun j => by have := hl (j + 1); simpa [Nat.add_assoc, Nat.add_comm 1 j] using this)
    refine ⟨fun j hj => ?_, by rw [this.2]; simp [Nat.add_assoc, Nat.add_comm 1]⟩
    cases j with
    | zero => simp only [Nat.add_zero]; rw [← e, hs]; exact h
    | succ j =>
      have := this.1 j (by simpa using hj)
      have e2 : i + (j + 1) = i + 1 + j := by omega
      rw [e2]; exact this
end

section
variable {C : Ctx} {P : Program} {ops : Array Oper} {steps : List Step} {A : List (List Nat)} {S0 S1 : St} {ρ : Ren} {a : Act} {w : World} {Q : Exit → Act → World → Prop} {id : Nat}
def dstB (ops : Array Oper) (n : Nat) : Bool := ops.toList.all fun o => match o.dst with
  | some d => Nat.blt d n
  | none => true
theorem dst_lt {ops : Array Oper} {n : Nat} (h : dstB ops n = true) (i : Nat) (o : Oper) (d : Tmp) (ho : ops[i]? = some o) (hd : o.dst = some d) : d < n := by
  have := List.all_eq_true.1 h o (by rw [Array.mem_toList_iff]; exact Array.mem_of_getElem? ho)
  rw [hd] at this
  exact blt_lt this
theorem region_draws (hm : P.follows .mixedOrders = true) (hd : dstB ops C.n = true) (hr : Runs C P ops 0 S0 steps S1) (hn : steps.length = ops.size)
    (hA : (ancOk ops A && tempsApart ops A && heapApart ops steps A) = true) (h : Rel C ρ S0 a w)
    (hq : ∀ ρ' a' w', Rel C ρ' S1 a' w' → Q .normal a' w') : (Code.region id ops true).wp P Q a w := by
  obtain ⟨h1, h2⟩ := runs_spec C P ops (steps := steps) (S0 := S0) hr rfl (fun j => by simp)
  rw [Bool.and_eq_true, Bool.and_eq_true] at hA
  refine region_any hm (dst_lt hd) hA.1.1 hA.1.2 hA.2 (fun i hi => ?_) h ?_
  · have := h1 i (by omega); simpa using this
  · rw [Nat.zero_add, hn] at h2; rw [← h2]; exact hq
theorem region_plain (hd : dstB ops C.n = true) (hr : Runs C P ops 0 S0 steps S1) (hn : steps.length = ops.size) (h : Rel C ρ S0 a w)
    (hq : ∀ ρ' a' w', Rel C ρ' S1 a' w' → Q .normal a' w') : (Code.region id ops false).wp P Q a w := by
  obtain ⟨h1, h2⟩ := runs_spec C P ops (steps := steps) (S0 := S0) hr rfl (fun j => by simp)
  refine region_text (steps := steps) (dst_lt hd) (fun i hi => ?_) h ?_
  · have := h1 i (by omega); simpa using this
  · rw [Nat.zero_add, hn] at h2; rw [← h2]; exact hq
end

/-! ### 4. Small facts of the model -/
section
variable {P : Program} {w : World} {t : TypeId}
theorem run_info {i : TypeInfo} (h : P.info? t = some i) : (typeInfo t).run P w = .ok i w := by simp [typeInfo, h]
theorem run_size {i : TypeInfo} (h : P.info? t = some i) : (sizeOf t).run P w = .ok i.size w := by simp [sizeOf, run_info h]
theorem run_zero {i : TypeInfo} {v : Value} (h : P.info? t = some i) (hz : i.zero = some v) : (zeroValue t).run P w = .ok v w := by simp [zeroValue, run_info h, hz]
def aggB (P : Program) (t : TypeId) : Option Bool := match P.underlying t with
  | some (.struct _) => some true
  | some (.array _ _) => some true
  | some _ => some false
  | none => none
theorem run_agg {b : Bool} (h : aggB P t = some b) : (isAgg t).run P w = .ok b w := by
  unfold aggB at h
  unfold isAgg
  split at h
  · rename_i hu; cases h; simp [run_underlying hu]
  · rename_i hu; cases h; simp [run_underlying hu]
  · rename_i d h1 h2 hu; cases h
    simp only [Sem.run_bind, run_underlying hu, Result.andThen_ok]
    cases d <;> first | rfl | (rename_i f; exact (h1 _ rfl).elim) | (exact (h2 _ _ rfl).elim)
  · cases h
end
theorem add_at (b o j : Nat) : (⟨b, o, none⟩ : Addr).add j = ⟨b, o + j, none⟩ := by
  unfold Addr.add; split <;> simp_all

/-! ### 5. Values that name no block -/
theorem VRel.of_only {ρ : Ren} {v : Value} (h : Only (fun _ => False) v) : VRel ρ v v := by
  induction h with
  | bool b => exact .bool b
  | int k n => exact .int k n
  | string s => exact .string s
  | ptr k off h => exact h.elim
  | nilPtr => exact .nilPtr
  | nilFunc => exact .nilFunc
  | nilIface => exact .nilIface
  | nilSlice => exact .nilSlice
  | slice k off len c h => exact h.elim
  | func fn xs cs _ _ ih ih' => exact .func fn xs xs cs cs rfl ih rfl ih'
  | agg xs _ ih => exact .agg xs xs rfl ih
  | tuple xs _ ih => exact .tuple xs xs rfl ih
theorem VRel.eq_of_only {ρ : Ren} {v v' : Value} (r : VRel ρ v v') (h : Only (fun _ => False) v) : v' = v := by
  induction r with
  | bool b => rfl
  | int k n => rfl
  | string s => rfl
  | ptr k off sp hk => cases h with | ptr _ _ h => exact h.elim
  | nilPtr => rfl
  | nilFunc => rfl
  | nilIface => rfl
  | nilSlice => rfl
  | slice k off len c cap sp hk hc hs => cases h with | slice _ _ _ _ h => exact h.elim
  | slice0 k off c A => cases h with | slice _ _ _ _ h => exact h.elim
  | func fn xs ys cs ds e _ e' _ ih ih' =>
    cases h with
    | func _ _ _ a b =>
      congr 1
      · exact (Array.ext e.symm (fun i h1 h2 => ih i h2 (a i h2)))
      · exact (Array.ext e'.symm (fun i h1 h2 => ih' i h2 (b i h2)))
  | agg xs ys e _ ih => cases h with | agg _ a => exact congrArg Value.agg (Array.ext e.symm (fun i h1 h2 => ih i h2 (a i h2)))
  | tuple xs ys e _ ih => cases h with | tuple _ a => exact congrArg Value.tuple (Array.ext e.symm (fun i h1 h2 => ih i h2 (a i h2)))

def flat1 : Value → Bool
  | .bool _ | .int _ _ | .string _ | .pointer none | .nilFunc | .nilIface => true
  | .slice none n c => Nat.beq n 0 && Nat.beq c 0
  | .func _ xs ys => Nat.beq xs.size 0 && Nat.beq ys.size 0
  | _ => false
def flatB : Value → Bool
  | .agg xs => xs.toList.all flat1
  | .tuple xs => xs.toList.all fun v => flat1 v || match v with
    | .agg ys => ys.toList.all flat1
    | _ => false
  | v => flat1 v
theorem only_flat1 {p : Nat → Prop} {v : Value} (h : flat1 v = true) : Only p v := by
  unfold flat1 at h
  split at h
  · exact .bool _
  · exact .int _ _
  · exact .string _
  · exact .nilPtr
  · exact .nilFunc
  · exact .nilIface
  · rw [Bool.and_eq_true] at h
    rw [Nat.eq_of_beq_eq_true h.1, Nat.eq_of_beq_eq_true h.2]; exact .nilSlice
  · rw [Bool.and_eq_true] at h
    have h1 := Nat.eq_of_beq_eq_true h.1
    have h2 := Nat.eq_of_beq_eq_true h.2
    exact .func _ _ _ (fun i hi => by omega) (fun i hi => by omega)
  · cases h
theorem only_all {p : Nat → Prop} {xs : Array Value} (h : ∀ v ∈ xs.toList, Only p v) : ∀ i (hi : i < xs.size), Only p xs[i] :=
  fun i hi => h _ (by simp)
theorem only_flat {p : Nat → Prop} {v : Value} (h : flatB v = true) : Only p v := by
  unfold flatB at h
  split at h
  · exact .agg _ (only_all fun v hv => only_flat1 (List.all_eq_true.1 h v hv))
  · refine .tuple _ (only_all fun v hv => ?_)
    have := List.all_eq_true.1 h v hv
    rw [Bool.or_eq_true] at this
    rcases this with h1 | h1
    · exact only_flat1 h1
    · split at h1
      · exact .agg _ (only_all fun u hu => only_flat1 (List.all_eq_true.1 h1 u hu))
      · cases h1
  · exact only_flat1 h

/-! ### 6. Operands; what an operation does where it only computes -/
def ev (S : St) : Operand → Option Value
  | .tmp t => S.T t
  | .const v => bif flatB v then some v else none
  | .func f => some (.func (.func f) #[] #[])
  | .global _ => none
theorem ev_rel {C : Ctx} {ρ : Ren} {S : St} {a : Act} {w : World} (h : Rel C ρ S a w) {x : Operand} {v : Value} (hx : ev S x = some v) : VRel ρ v (a.eval x) := by
  cases x with
  | tmp t =>
    obtain ⟨v', h1, h2⟩ := h.temps t v hx
    simp only [Act.eval, Array.getD_eq_getD_getElem?, h1, Option.getD_some]; exact h2
  | const u =>
    simp only [ev] at hx
    cases hf : flatB u with
    | false => rw [hf] at hx; cases hx
    | true => rw [hf] at hx; cases hx; exact .of_only (only_flat hf)
  | func f => cases hx; exact .of_only (.func _ _ _ (fun i hi => by simp at hi) (fun i hi => by simp at hi))
  | global g => cases hx

/-- The state's own eyes. -/
def eyes (S : St) (x : Operand) : Value := (ev S x).getD undef
def flatOps (S : St) (o : Oper) : Bool := o.op.operands.toList.all fun x => match ev S x with
  | some v => flatB v
  | none => false
def noSelB (o : Oper) : Bool := match o.op with | .select _ _ => false | _ => true
/-- The guard, as the state sees it. -/
def guardOf (ops : Array Oper) (S : St) (o : Oper) : Option Bool := match o.guard with
  | none => some true
  | some (g, want) => match dstOf ops g with
    | some t => match S.T t with
      | some (.bool b) => some (b == want)
      | some (.tuple vs) => bif Nat.beq vs.size 0 then some false else none
      | _ => none
    | none => none

theorem guard_wanted {C : Ctx} {ρ : Ren} {S : St} {a : Act} {w : World} {ops : Array Oper} {o : Oper} {b : Bool} (h : Rel C ρ S a w) (hg : guardOf ops S o = some b) :
    Region.wanted o (yielded ops a.tmps) = b := by
  unfold guardOf at hg
  unfold Region.wanted
  split at hg
  · rename_i e; rw [e]; cases hg; rfl
  · rename_i g want e
    rw [e]
    split at hg
    · rename_i t ht
      have ht' : (ops[g]?).bind (·.dst) = some t := ht
      split at hg
      · rename_i c hc
        obtain ⟨v', h1, h2⟩ := h.temps t _ hc
        cases h2
        cases hg
        simp only [yielded, ht', Option.bind_some, h1]
        cases c <;> cases want <;> rfl
      · rename_i vs hc
        obtain ⟨v', h1, h2⟩ := h.temps t _ hc
        cases h2
        cases hz : Nat.beq vs.size 0 with
        | false => rw [hz] at hg; cases hg
        | true =>
          rw [hz] at hg
          cases hg
          simp only [yielded, ht', Option.bind_some, h1]
          cases want <;> rfl
      · cases hg
    · cases hg

/-- The look at a state that is alike. -/
theorem ev_like {S S' : St} {ops : Array Oper} {o : Oper} (h : ∀ t, t ∈ o.looksAt ops → S'.T t = S.T t) {x : Operand} (hx : x ∈ o.op.operands.toList) : ev S' x = ev S x := by
  cases x with
  | tmp t => exact h t (List.mem_append_left _ (List.mem_filterMap.2 ⟨.tmp t, hx, rfl⟩))
  | _ => rfl
theorem guard_like {S S' : St} {ops : Array Oper} {o : Oper} (h : ∀ t, t ∈ o.looksAt ops → S'.T t = S.T t) : guardOf ops S' o = guardOf ops S o := by
  unfold guardOf
  split
  · rfl
  · rename_i g want e
    have e' : o.guard = some (g, want) := e
    cases hd : dstOf ops g with
    | none => rfl
    | some t =>
      have : S'.T t = S.T t := h t (by
        unfold Oper.looksAt
        refine List.mem_append_right _ ?_
        rw [e']
        have hd' : (ops[g]?).bind (·.dst) = some t := hd
        simp [hd'])
      simp only [this]

/-- An operation that leaves a value: the state of the machine behind it. -/
theorem Rel.put {C : Ctx} {ρ : Ren} {S : St} {a : Act} {w : World} (h : Rel C ρ S a w) {d : Option Tmp} (hd : ∀ x, d = some x → x < C.n) {v v' : Value} (r : VRel ρ v v') : Rel C ρ ⟨putT S.T d v, S.H⟩ (a.put d v') w := by
  cases d with
  | none => exact h
  | some d =>
    refine ⟨by simp [Act.put, h.size], h.defers, fun t u hu => ?_, h.heap, h.frame, h.owned, h.pin⟩
    have hu' : upd S.T d (some v) t = some u := hu
    by_cases e : t = d
    · subst e
      rw [upd_self] at hu'
      cases hu'
      have hs : t < a.tmps.size := by rw [h.size]; exact hd t rfl
      exact ⟨v', by simp [Act.put, hs], r⟩
    · rw [upd_ne _ _ e] at hu'
      obtain ⟨x, h1, h2⟩ := h.temps t u hu'
      exact ⟨x, by simp [Act.put, Array.getElem?_setIfInBounds_ne (Ne.symm e), h1], h2⟩

/-! ### 7. The steps -/
def shapeAt (ops : Array Oper) (S : St) (i : Nat) : Option (Op × Bool) := (ops[i]?).bind fun o => (guardOf ops S o).map fun b => (o.op, b)
theorem shape_spec {ops : Array Oper} {S : St} {i : Nat} {op : Op} {b : Bool} (h : shapeAt ops S i = some (op, b)) {o : Oper} (ho : ops[i]? = some o) :
    o.op = op ∧ guardOf ops S o = some b := by
  unfold shapeAt at h
  rw [ho] at h
  simp only [Option.bind_some, Option.map_eq_some_iff, Prod.mk.injEq] at h
  obtain ⟨c, h1, h2, rfl⟩ := h
  exact ⟨h2, h1⟩

section
variable {C : Ctx} {P : Program} {ops : Array Oper} {i : Nat} {S : St}

/-- The one door: how an operation that runs is told. -/
theorem Does.of_run {s : Step} {op : Op} (hs : shapeAt ops S i = some (op, true))
    (run : ∀ (o : Oper), o.op = op → ∀ (S' : St) (ρ : Ren) (a : Act) (w : World), (∀ x, x ∈ op.operands.toList → ev S' x = ev S x) → (∀ k, k ∈ s.reads → S'.H k = S.H k) → Rel C ρ S' a w →
      ∃ n w' ρ' v', (execOp a.eval o).run P w = .ok n w' ∧ (n = .value v' ∨ (n = .skip ∧ v' = undef)) ∧ VRel ρ' s.eff.val v' ∧ Rel C ρ' ⟨S'.T, wr s.eff.writes S'.H⟩ a w') :
    Does C P ops i S s := by
  intro o ho hd S' ρ a w K Q hT hH hr hK
  obtain ⟨hop, hg⟩ := shape_spec hs ho
  have hg' : guardOf ops S' o = some true := by rw [guard_like hT]; exact hg
  have hw := guard_wanted hr hg'
  obtain ⟨n, w', ρ', v', h1, h2, h3, h4⟩ := run o hop S' ρ a w (fun x hx => ev_like hT (by rw [hop]; exact hx)) hH hr
  unfold wpOp
  simp only [ho, hw, if_true]
  refine .inl ?_
  unfold Oper.wp
  rw [h1]
  have hput := Rel.put h4 hd h3
  rcases h2 with rfl | ⟨rfl, rfl⟩
  · exact hK ρ' _ _ hput
  · exact hK ρ' _ _ hput

/-- A guarded operation that is passed by. -/
theorem does_skip {op : Op} (hs : shapeAt ops S i = some (op, false)) : Does C P ops i S ⟨[], undef, []⟩ := by
  intro o ho hd S' ρ a w K Q hT hH hr hK
  obtain ⟨hop, hg⟩ := shape_spec hs ho
  have hg' : guardOf ops S' o = some false := by rw [guard_like hT]; exact hg
  have hw := guard_wanted hr hg'
  unfold wpOp
  simp only [ho, hw, Bool.false_eq_true, if_false]
  refine hK ρ _ _ ?_
  have : Rel C ρ ⟨putT S'.T o.dst undef, S'.H⟩ (a.put o.dst undef) w := Rel.put hr hd (VRel.of_only (only_flat rfl))
  exact this

theorem wr_nil (H : Nat → Cell) : wr [] H = H := rfl
theorem wr_one (H : Nat → Cell) (k : Nat) (c : Cell) : wr [(k, c)] H = upd H k c := by
  funext n
  simp only [wr, findW, upd]
  cases Nat.beq n k <;> rfl

/-- It only computes. -/
def execAt (ops : Array Oper) (i : Nat) (f : Operand → Value) : Sem Next := match ops[i]? with
  | some o => execOp f o
  | none => stuck ""
def pureB (ops : Array Oper) (S : St) (i : Nat) : Bool := match ops[i]? with
  | some o => flatOps S o && noSelB o && (match guardOf ops S o with | some b => b | none => false)
  | none => false
theorem does_pure {v : Value} (hp : pureB ops S i = true) (hrun : ∀ w, (execAt ops i (eyes S)).run P w = .ok (.value v) w) (hv : flatB v = true) : Does C P ops i S ⟨[], v, []⟩ := by
  intro o ho hd S' ρ a w K Q hT hH hr hK
  unfold pureB at hp
  rw [ho] at hp
  simp only [Bool.and_eq_true] at hp
  obtain ⟨⟨hf, hn⟩, hg⟩ := hp
  have hg1 : guardOf ops S o = some true := by
    split at hg
    · rename_i b e; rw [e, hg]
    · cases hg
  have hg' : guardOf ops S' o = some true := by rw [guard_like hT]; exact hg1
  have hw := guard_wanted hr hg'
  have hex : execOp a.eval o = execOp (eyes S) o := by
    refine execOp_congr o (fun cs b e => by unfold noSelB at hn; rw [e] at hn; cases hn) (fun x hx => ?_)
    have hx' : x ∈ o.op.operands.toList := by simpa using hx
    have := List.all_eq_true.1 hf x hx'
    cases hev : ev S x with
    | none => rw [hev] at this; cases this
    | some u =>
      rw [hev] at this
      have hev' : ev S' x = some u := by rw [ev_like hT hx']; exact hev
      have := (ev_rel hr hev').eq_of_only (only_flat this)
      rw [this]; simp [eyes, hev]
  have hrw := hrun w
  unfold execAt at hrw
  rw [ho] at hrw
  unfold wpOp
  simp only [ho, hw, if_true]
  refine .inl ?_
  unfold Oper.wp
  rw [hex, hrw]
  have : Rel C ρ ⟨putT S'.T o.dst v, S'.H⟩ (a.put o.dst v) w := Rel.put hr hd (VRel.of_only (only_flat hv))
  exact hK ρ _ _ this

theorem does_move {x : Operand} {v : Value} (hs : shapeAt ops S i = some (.move x, true)) (hx : ev S x = some v) : Does C P ops i S ⟨[], v, []⟩ :=
  .of_run hs fun o ho S' ρ a w hT _ hr => ⟨_, w, ρ, a.eval x, by simp [execOp, ho], .inl rfl, ev_rel hr (by rw [hT x (by simp [Op.operands])]; exact hx), hr⟩
theorem does_assign {x : Operand} {v : Value} (hs : shapeAt ops S i = some (.assign x, true)) (hx : ev S x = some v) : Does C P ops i S ⟨[], v, []⟩ :=
  .of_run hs fun o ho S' ρ a w hT _ hr => ⟨_, w, ρ, a.eval x, by simp [execOp, ho], .inl rfl, ev_rel hr (by rw [hT x (by simp [Op.operands])]; exact hx), hr⟩
theorem does_pick {c x y : Operand} {b : Bool} {v : Value} (hs : shapeAt ops S i = some (.pick c x y, true)) (hc : ev S c = some (.bool b)) (hx : ev S (bif b then x else y) = some v) :
    Does C P ops i S ⟨[], v, []⟩ :=
  .of_run hs fun o ho S' ρ a w hT _ hr => by
    have h1 := ev_rel hr (by rw [hT c (by simp [Op.operands])]; exact hc)
    generalize hac : a.eval c = ac at h1
    cases h1
    refine ⟨_, w, ρ, a.eval (bif b then x else y), ?_, .inl rfl, ev_rel hr (by rw [hT _ (by cases b <;> simp [Op.operands])]; exact hx), hr⟩
    cases b <;> simp [execOp, ho, hac, asBool]
theorem does_nilCheck {x : Operand} {A : Addr} (hs : shapeAt ops S i = some (.nilCheck x, true)) (hx : ev S x = some (.pointer (some A))) : Does C P ops i S ⟨[], .pointer (some A), []⟩ :=
  .of_run hs fun o ho S' ρ a w hT _ hr => by
    have h1 := ev_rel hr (by rw [hT x (by simp [Op.operands])]; exact hx)
    generalize hax : a.eval x = ax at h1
    refine ⟨_, w, ρ, ax, ?_, .inl rfl, h1, hr⟩
    cases h1
    simp [execOp, ho, hax]
theorem does_extract {x : Operand} {n : Nat} {vs : Array Value} {v : Value} (hs : shapeAt ops S i = some (.extract x n, true)) (hx : ev S x = some (.tuple vs)) (hv : vs[n]? = some v) :
    Does C P ops i S ⟨[], v, []⟩ :=
  .of_run hs fun o ho S' ρ a w hT _ hr => by
    have h1 := ev_rel hr (by rw [hT x (by simp [Op.operands])]; exact hx)
    generalize hax : a.eval x = ax at h1
    cases h1 with
    | tuple _ ys e hp =>
      obtain ⟨hn, he⟩ := Array.getElem?_eq_some_iff.1 hv
      have hn' : n < ys.size := by omega
      refine ⟨_, w, ρ, ys[n], ?_, .inl rfl, by rw [← he]; exact hp n hn, hr⟩
      simp [execOp, ho, hax, Instr.extract, Array.getElem?_eq_getElem hn']

/-! addresses -/
def fieldOff (P : Program) (s : TypeId) (f : Nat) : Option Nat := match P.underlying s with
  | some (.struct fields) => match fields[f]? with
    | some fd => match P.info? fd.type with
      | some i => bif Nat.beq i.size 0 then none else some fd.offset
      | none => none
    | none => none
  | _ => none
theorem does_fieldAddr {s : TypeId} {x : Operand} {f k off d : Nat} (hs : shapeAt ops S i = some (.fieldAddr s x f, true)) (hx : ev S x = some (.pointer (some ⟨k, off, none⟩)))
    (hf : fieldOff P s f = some d) : Does C P ops i S ⟨[], .pointer (some ⟨k, off + d, none⟩), []⟩ :=
  .of_run hs fun o ho S' ρ a w hT _ hr => by
    have h1 := ev_rel hr (by rw [hT x (by simp [Op.operands])]; exact hx)
    generalize hax : a.eval x = ax at h1
    cases h1 with
    | ptr _ _ sp hk =>
      refine ⟨_, w, ρ, .pointer (some ⟨sp.block, sp.off + (off + d), none⟩), ?_, .inl rfl, .ptr k (off + d) sp hk, hr⟩
      unfold fieldOff at hf
      split at hf
      · rename_i fields hu
        split at hf
        · rename_i fd hfd
          split at hf
          · rename_i inf hi
            cases hz : Nat.beq inf.size 0 with
            | true => rw [hz] at hf; cases hf
            | false =>
              rw [hz] at hf; cases hf
              have hz' : ¬ inf.size = 0 := fun e => by rw [e] at hz; cases hz
              simp only [execOp, ho, hax, Instr.fieldAt, Sem.run_bind, run_underlying hu, Result.andThen_ok, hfd, Instr.sureAddr, Sem.run_pure, fieldPlace, run_size hi, Sem.run_ite, hz', if_false, add_at, Nat.add_assoc]
          · cases hf
        · cases hf
      · cases hf
def elemSize (P : Program) (t : TypeId) : Option Nat := match P.underlying t with
  | some (.slice e) => (P.info? e).map (·.size)
  | some (.array _ e) => (P.info? e).map (·.size)
  | _ => none
def arrLen (P : Program) (t : TypeId) : Option Nat := match P.underlying t with
  | some (.array n _) => some n
  | _ => none
def slcB (P : Program) (t : TypeId) : Bool := match P.underlying t with
  | some (.slice _) => true
  | _ => false
theorem does_indexArr {t : TypeId} {x y : Operand} {k off n z : Nat} {kd : IntKind} {j : Int} (hs : shapeAt ops S i = some (.indexAddr t x y, true))
    (hx : ev S x = some (.pointer (some ⟨k, off, none⟩))) (hy : ev S y = some (.int kd j)) (hn : arrLen P t = some n) (hz : elemSize P t = some z) (h0 : 0 ≤ j) (h1 : j < n) :
    Does C P ops i S ⟨[], .pointer (some ⟨k, off + j.toNat * z, none⟩), []⟩ :=
  .of_run hs fun o ho S' ρ a w hT _ hr => by
    have hrx := ev_rel hr (by rw [hT x (by simp [Op.operands])]; exact hx)
    have hry := ev_rel hr (by rw [hT y (by simp [Op.operands])]; exact hy)
    generalize hax : a.eval x = ax at hrx
    generalize hay : a.eval y = ay at hry
    cases hry
    cases hrx with
    | ptr _ _ sp hk =>
      refine ⟨_, w, ρ, .pointer (some ⟨sp.block, sp.off + (off + j.toNat * z), none⟩), ?_, .inl rfl, .ptr k _ sp hk, hr⟩
      unfold arrLen at hn
      split at hn
      · rename_i m e hu
        cases hn
        unfold elemSize at hz
        rw [hu] at hz
        simp only [Option.map_eq_some_iff] at hz
        obtain ⟨inf, hi, rfl⟩ := hz
        simp only [execOp, ho, hax, hay, Instr.indexAt, Sem.run_bind, asIntOf, Sem.run_pure, run_underlying hu, Result.andThen_ok, Instr.sureAddr, Sem.run_ite, if_pos (And.intro h0 h1), run_size hi, add_at, Nat.add_assoc]
      · cases hn
theorem does_indexSlice {t : TypeId} {x y : Operand} {k off n c z : Nat} {kd : IntKind} {j : Int} (hs : shapeAt ops S i = some (.indexAddr t x y, true))
    (hx : ev S x = some (.slice (some ⟨k, off, none⟩) n c)) (hy : ev S y = some (.int kd j)) (hsl : slcB P t = true) (hz : elemSize P t = some z) (h0 : 0 ≤ j) (h1 : j < n) :
    Does C P ops i S ⟨[], .pointer (some ⟨k, off + j.toNat * z, none⟩), []⟩ :=
  .of_run hs fun o ho S' ρ a w hT _ hr => by
    have hrx := ev_rel hr (by rw [hT x (by simp [Op.operands])]; exact hx)
    have hry := ev_rel hr (by rw [hT y (by simp [Op.operands])]; exact hy)
    generalize hax : a.eval x = ax at hrx
    generalize hay : a.eval y = ay at hry
    cases hry
    cases hrx with
    | slice _ _ _ _ cap sp hk hc hss =>
      refine ⟨_, w, ρ, .pointer (some ⟨sp.block, sp.off + (off + j.toNat * z), none⟩), ?_, .inl rfl, .ptr k _ sp hk, hr⟩
      unfold slcB at hsl
      split at hsl
      · rename_i e hu
        unfold elemSize at hz
        rw [hu] at hz
        simp only [Option.map_eq_some_iff] at hz
        obtain ⟨inf, hi, rfl⟩ := hz
        simp only [execOp, ho, hax, hay, Instr.indexAt, Sem.run_bind, asIntOf, Sem.run_pure, run_underlying hu, Result.andThen_ok, Sem.run_ite, if_pos (And.intro h0 h1), run_size hi, add_at, Nat.add_assoc]
      · cases hsl
    | slice0 => omega

/-! memory -/
theorem BlkOk.cell {ρ : Ren} {w : World} {sp : Spot} {b : Blk} (h : BlkOk ρ w sp b) {j : Nat} {u : Value} (hj : b.cells[j]? = some u) :
    ∃ v, w.cell? ⟨sp.block, sp.off + j, none⟩ = some v ∧ VRel ρ u v := by
  by_cases o : b.own = true
  · rw [BlkOk.own o] at h
    obtain ⟨_, c, h1, _, _, h4⟩ := h
    obtain ⟨v, h5, h6⟩ := h4 j u hj
    refine ⟨v, ?_, h6⟩
    rw [cell_of_row w sp.block (sp.off + j) c b.elem (0, 0) h1]
    exact h5
  · rw [BlkOk.ro o] at h; exact h.2.2 j u hj

/-- A value of type t at place off of a row. -/
def ldV (P : Program) (t : TypeId) (cells : List Value) (off : Nat) : Option Value := match P.info? t with
  | some i => match aggB P t with
    | some true => bif Nat.ble (off + i.size) cells.length then some (.agg ((cells.drop off).take i.size).toArray) else none
    | some false => cells[off]?
    | none => none
  | none => none
theorem ldV_run {ρ : Ren} {w : World} {sp : Spot} {b : Blk} (h : BlkOk ρ w sp b) {t : TypeId} {off : Nat} {v : Value} (hv : ldV P t b.cells off = some v) :
    ∃ v', (loadVar t ⟨sp.block, sp.off + off, none⟩).run P w = .ok v' w ∧ VRel ρ v v' := by
  unfold ldV at hv
  split at hv
  · rename_i inf hi
    split at hv
    · rename_i ha
      cases hb : Nat.ble (off + inf.size) b.cells.length with
      | false => rw [hb] at hv; cases hv
      | true =>
        rw [hb] at hv
        simp only [cond_true, Option.some.injEq] at hv
        subst hv
        have hle := Nat.le_of_ble_eq_true hb
        have hc : ∀ j, j < inf.size → ∃ x, w.cell? ((⟨sp.block, sp.off + off, none⟩ : Addr).add j) = some x ∧ ∀ u, b.cells[off + j]? = some u → VRel ρ u x := fun j hj => by
          obtain ⟨x, h1, h2⟩ := h.cell (j := off + j) (u := b.cells[off + j]) (List.getElem?_eq_getElem (by omega))
          refine ⟨x, by rw [add_at, Nat.add_assoc]; exact h1, fun u hu => ?_⟩
          rw [List.getElem?_eq_getElem (by omega)] at hu
          cases hu; exact h2
        let f : Nat → Value := fun j => (w.cell? ((⟨sp.block, sp.off + off, none⟩ : Addr).add j)).getD undef
        have hf : ∀ j, j < inf.size → w.cell? ((⟨sp.block, sp.off + off, none⟩ : Addr).add j) = some (f j) := fun j hj => by
          obtain ⟨x, h1, _⟩ := hc j hj
          simp only [f, h1, Option.getD_some]
        refine ⟨.agg ((List.range inf.size).map f).toArray, ?_, ?_⟩
        · simp only [loadVar, Sem.run_bind, run_agg ha, Result.andThen_ok, Sem.run_ite, if_true, run_size hi, run_loadCells w _ inf.size f hf, Sem.run_pure]
        · refine .agg _ _ (by simp; omega) (fun j hj => ?_)
          have hj' : j < inf.size := by simp at hj; omega
          obtain ⟨x, h1, h2⟩ := hc j hj'
          have hfx : f j = x := by simp only [f, h1, Option.getD_some]
          simp only [List.getElem_toArray, List.getElem_take, List.getElem_drop, List.getElem_map, List.getElem_range, hfx]
          exact h2 _ (List.getElem?_eq_getElem (by omega))
    · rename_i ha
      obtain ⟨x, h1, h2⟩ := h.cell hv
      refine ⟨x, ?_, h2⟩
      simp only [loadVar, Sem.run_bind, run_agg ha, Result.andThen_ok, Sem.run_ite, Bool.false_eq_true, if_false, run_load, h1]
    · cases hv
  · cases hv
theorem does_load {t : TypeId} {x : Operand} {k off : Nat} {b : Blk} {v : Value} (hs : shapeAt ops S i = some (.load t x, true)) (hx : ev S x = some (.pointer (some ⟨k, off, none⟩)))
    (hH : S.H k = .live b) (hv : ldV P t b.cells off = some v) : Does C P ops i S ⟨[k], v, []⟩ :=
  .of_run hs fun o ho S' ρ a w hT hH' hr => by
    have hrx := ev_rel hr (by rw [hT x (by simp [Op.operands])]; exact hx)
    generalize hax : a.eval x = ax at hrx
    cases hrx with
    | ptr _ _ sp hk =>
      obtain ⟨sp', hk', hb⟩ := hr.heap.live k b (by rw [hH' k (by simp)]; exact hH)
      rw [hk] at hk'; cases hk'
      obtain ⟨v', h1, h2⟩ := ldV_run hb hv
      exact ⟨_, w, ρ, v', by simp only [execOp, ho, hax, Instr.loadAt, Instr.sureAddr, Sem.run_bind, Sem.run_pure, Result.andThen_ok, h1], .inl rfl, h2, hr⟩

/-! a new block -/
theorem Rel.new {ρ : Ren} {a : Act} {w : World} (h : Rel C ρ S a w) {k : Nat} (hk : S.H k = .fresh) {cells : List Value} {c : Array Value} {e : TypeId} {st : Nat}
    (hl : cells.length ≤ c.size) (hc : ∀ (j : Nat) (u : Value), cells[j]? = some u → ∃ v, c[j]? = some v ∧ VRel ρ u v) :
    ρ k = none ∧ Rel C (upd ρ k (some ⟨w.heap.size, 0, c.size, st⟩)) ⟨S.T, wr [(k, .live ⟨cells, e, true, st⟩)] S.H⟩ a (w.alloc (.cells c e)) := by
  have hn := h.heap.fresh k hk
  have hle := Ren.le_upd (ρ := ρ) ⟨w.heap.size, 0, c.size, st⟩ hn
  have old : ∀ k' b sp, k' ≠ k → S.H k' = .live b → upd ρ k (some ⟨w.heap.size, 0, c.size, st⟩) k' = some sp → ρ k' = some sp ∧ (¬ Void b → sp.block < w.heap.size) := fun k' b sp hne hb hsp => by
    rw [upd_ne _ _ hne] at hsp
    obtain ⟨sp', h1, h2⟩ := h.heap.live k' b hb
    rw [hsp] at h1; cases h1
    exact ⟨hsp, fun nv => h2.lt nv⟩
  rw [wr_one]
  refine ⟨hn, h.size, h.defers, fun t v hv => ?_, ⟨fun k' (hf : upd S.H k _ k' = .fresh) => ?_, fun k' b (hb : upd S.H k _ k' = .live b) => ?_, ?_⟩, ⟨h.frame.os, h.frame.tape, h.frame.output, ?_, fun b hb hW => ?_⟩, fun k' b sp (hb : upd S.H k _ k' = .live b) ho hsp => ?_, fun k' hk' => ?_⟩
  · obtain ⟨v', h1, h2⟩ := h.temps t v hv
    exact ⟨v', h1, h2.mono hle⟩
  · by_cases e : k' = k
    · subst e; rw [upd_self] at hf; cases hf
    · rw [upd_ne _ _ e] at hf ⊢; exact h.heap.fresh k' hf
  · by_cases e : k' = k
    · subst e; rw [upd_self] at hb; cases hb
      refine ⟨_, upd_self _ _ _, ?_⟩
      rw [BlkOk.own rfl]
      exact ⟨rfl, c, heap_alloc_new w _, Nat.zero_add _, hl, fun j u hu => let ⟨v, h1, h2⟩ := hc j u hu; ⟨v, by simpa using h1, h2.mono hle⟩⟩
    · rw [upd_ne _ _ e] at hb
      obtain ⟨sp, h1, h2⟩ := h.heap.live k' b hb
      exact ⟨sp, by rw [upd_ne _ _ e]; exact h1, (h2.mono hle).same (fun nv => heap_alloc_old w _ _ (h2.lt nv))⟩
  · intro k1 k2 b1 b2 sp1 sp2 hne (hb1 : upd S.H k _ k1 = .live b1) (hb2 : upd S.H k _ k2 = .live b2) ho nv h1 h2
    by_cases e1 : k1 = k
    · subst e1
      rw [upd_self] at h1; cases h1
      rw [upd_ne _ _ (Ne.symm hne)] at hb2
      have := (old k2 b2 sp2 (Ne.symm hne) hb2 h2).2 nv
      exact Nat.ne_of_gt this
    · by_cases e2 : k2 = k
      · subst e2
        rw [upd_self] at h2; cases h2
        rw [upd_ne _ _ e1] at hb1
        have := (old k1 b1 sp1 e1 hb1 h1).2 (not_void ho)
        exact Nat.ne_of_lt this
      · rw [upd_ne _ _ e1] at hb1 h1
        rw [upd_ne _ _ e2] at hb2 h2
        exact h.heap.apart k1 k2 b1 b2 sp1 sp2 hne hb1 hb2 ho nv h1 h2
  · have := h.frame.size; simp; omega
  · rw [heap_alloc_old w _ _ (by have := h.frame.size; omega)]; exact h.frame.block b hb hW
  · by_cases e : k' = k
    · subst e; rw [upd_self] at hsp; cases hsp; exact .inr h.frame.size
    · rw [upd_ne _ _ e] at hb hsp; exact h.owned k' b sp hb ho hsp
  · obtain ⟨sp, p1, p2⟩ := h.pin k' hk'
    exact ⟨sp, p1, by rw [upd_ne _ _ (fun e => by rw [e, hn] at p2; cases p2)]; exact p2⟩

theorem VRel.cells {ρ : Ren} {v v' : Value} (r : VRel ρ v v') : v.cells.toList.length = v'.cells.size ∧ ∀ (j : Nat) (u : Value), v.cells.toList[j]? = some u → ∃ x, v'.cells[j]? = some x ∧ VRel ρ u x := by
  have one : ∀ x x' : Value, x.cells = #[x] → x'.cells = #[x'] → VRel ρ x x' → x.cells.toList.length = x'.cells.size ∧ ∀ (j : Nat) (u : Value), x.cells.toList[j]? = some u → ∃ y, x'.cells[j]? = some y ∧ VRel ρ u y := by
    intro x x' h1 h2 r
    rw [h1, h2]
    refine ⟨rfl, fun j u hu => ?_⟩
    cases j with
    | zero => simp at hu; subst hu; exact ⟨x', rfl, r⟩
    | succ j => simp at hu
  cases r with
  | agg xs ys e hp =>
    refine ⟨by simp [Value.cells, e], fun j u hu => ?_⟩
    simp only [Value.cells, Array.getElem?_toList] at hu ⊢
    obtain ⟨hj, he⟩ := Array.getElem?_eq_some_iff.1 hu
    exact ⟨ys[j], Array.getElem?_eq_getElem (by omega), by rw [← he]; exact hp j hj⟩
  | bool b => exact one _ _ rfl rfl (.bool b)
  | int k n => exact one _ _ rfl rfl (.int k n)
  | string s => exact one _ _ rfl rfl (.string s)
  | ptr k off sp hk => exact one _ _ rfl rfl (.ptr k off sp hk)
  | nilPtr => exact one _ _ rfl rfl .nilPtr
  | nilFunc => exact one _ _ rfl rfl .nilFunc
  | nilIface => exact one _ _ rfl rfl .nilIface
  | nilSlice => exact one _ _ rfl rfl .nilSlice
  | slice k off len c cap sp hk hc hs => exact one _ _ rfl rfl (.slice k off len c cap sp hk hc hs)
  | slice0 k off c A => exact one _ _ rfl rfl (.slice0 k off c A)
  | func fn xs ys cs ds e a e' b => exact one _ _ rfl rfl (.func fn xs ys cs ds e a e' b)
  | tuple xs ys e a => exact one _ _ rfl rfl (.tuple xs ys e a)

theorem new_run {ρ : Ren} {a : Act} {w : World} (h : Rel C ρ S a w) {k : Nat} (hk : S.H k = .fresh) {t : TypeId} (st : Nat) {v v' : Value} (r : VRel ρ v v') :
    ∃ w' ρ' x, (newVar t v').run P w = .ok x w' ∧ VRel ρ' (.pointer (some ⟨k, 0, none⟩)) (.pointer (some x)) ∧ Rel C ρ' ⟨S.T, wr [(k, .live ⟨v.cells.toList, t, true, st⟩)] S.H⟩ a w' := by
  obtain ⟨h1, h2⟩ := r.cells
  obtain ⟨hn, hr⟩ := Rel.new h hk (cells := v.cells.toList) (c := v'.cells) (e := t) (st := st) (by omega) h2
  refine ⟨_, _, ⟨w.heap.size, 0, none⟩, ?_, ?_, hr⟩
  · simp only [newVar, newRow, Sem.run_bind, run_newObj, Result.andThen_ok, Sem.run_pure]; rfl
  · have := VRel.ptr (ρ := upd ρ k (some ⟨w.heap.size, 0, v'.cells.size, st⟩)) k 0 _ (upd_self _ _ _)
    exact this
def zeroOf (P : Program) (t : TypeId) : Option Value := (P.info? t).bind (·.zero)
theorem run_zeroOf {t : TypeId} {v : Value} (h : zeroOf P t = some v) (w : World) : (zeroValue t).run P w = .ok v w := by
  unfold zeroOf at h
  rw [Option.bind_eq_some_iff] at h
  obtain ⟨inf, h1, h2⟩ := h
  exact run_zero h1 h2
theorem does_alloc {t : TypeId} {k : Nat} {v : Value} {cells : List Value} {st : Nat} (hs : shapeAt ops S i = some (.alloc t, true)) (hk : S.H k = .fresh) (hz : zeroOf P t = some v) (hf : flatB v = true) (hc : v.cells.toList = cells) :
    Does C P ops i S ⟨[k], .pointer (some ⟨k, 0, none⟩), [(k, .live ⟨cells, t, true, st⟩)]⟩ :=
  .of_run hs fun o ho S' ρ a w hT hH' hr => by
    obtain ⟨w', ρ', x, h1, h2, h3⟩ := new_run (P := P) hr (by rw [hH' k (by simp)]; exact hk) (t := t) st (VRel.of_only (only_flat hf))
    subst hc
    exact ⟨_, w', ρ', _, by simp [execOp, ho, Instr.alloc, run_zeroOf hz, h1], .inl rfl, h2, h3⟩
theorem does_box {t : TypeId} {x : Operand} {k : Nat} {v : Value} {cells : List Value} {st : Nat} (hs : shapeAt ops S i = some (.box t x, true)) (hk : S.H k = .fresh) (hx : ev S x = some v) (hc : v.cells.toList = cells) :
    Does C P ops i S ⟨[k], .pointer (some ⟨k, 0, none⟩), [(k, .live ⟨cells, t, true, st⟩)]⟩ :=
  .of_run hs fun o ho S' ρ a w hT hH' hr => by
    have hrx := ev_rel hr (by rw [hT x (by simp [Op.operands])]; exact hx)
    obtain ⟨w', ρ', y, h1, h2, h3⟩ := new_run (P := P) hr (by rw [hH' k (by simp)]; exact hk) (t := t) st hrx
    subst hc
    exact ⟨_, w', ρ', _, by simp [execOp, ho, Instr.box, h1], .inl rfl, h2, h3⟩

/-! a store -/
def setL : List Value → Nat → List Value → List Value
  | l, _, [] => l
  | l, off, v :: vs => setL (l.set off v) (off + 1) vs
theorem setL_length : ∀ (vs l : List Value) (off : Nat), (setL l off vs).length = l.length
  | [], l, off => rfl
  | v :: vs, l, off => by simp [setL, setL_length vs]
def plainB (v : Value) : Bool := match v with | .agg _ | .tuple _ => false | _ => true
theorem plain_rel {ρ : Ren} {v v' : Value} (r : VRel ρ v v') (h : plainB v = true) : v'.oneCell' = true := by
  cases r <;> first | rfl | (cases h)
theorem setL_get : ∀ (vs l : List Value) (off : Nat), off + vs.length ≤ l.length → ∀ j, (setL l off vs)[j]? = if off ≤ j ∧ j < off + vs.length then vs[j - off]? else l[j]?
  | [], l, off, _, j => by simp [setL]; omega
  | v :: vs, l, off, h, j => by
    simp only [setL]
    rw [setL_get vs (l.set off v) (off + 1) (by simp at h ⊢; omega) j]
    simp only [List.length_cons] at h ⊢
    by_cases e : j = off
    · subst e
      rw [if_neg (by omega), if_pos (by omega), List.getElem?_set_self (by omega)]
      simp
    · by_cases e2 : off + 1 ≤ j ∧ j < off + 1 + vs.length
      · rw [if_pos e2, if_pos (by omega), show j - off = (j - (off + 1)) + 1 by omega]; simp
      · rw [if_neg e2, if_neg (by omega), List.getElem?_set_ne (Ne.symm e)]
/-- The row behind a store: 'fin' tells what the row is to hold. -/
theorem run_storeCells {ρ : Ren} {blk o : Nat} {e : TypeId} {fin : List Value} : ∀ (us vs : List Value) (w : World) (c : Array Value) (off i : Nat),
    w.heap[blk]? = some (.cells c e (0, 0)) → o + off + i + us.length ≤ c.size → us.length = vs.length → (∀ u ∈ us, plainB u = true) →
    (∀ (j : Nat) (u : Value), us[j]? = some u → ∃ v, vs[j]? = some v ∧ VRel ρ u v) → (∀ (j : Nat) (u : Value), us[j]? = some u → fin[off + i + j]? = some u) →
    (∀ (j : Nat) (u : Value), (j < off + i ∨ off + i + us.length ≤ j) → fin[j]? = some u → ∃ v, c[o + j]? = some v ∧ VRel ρ u v) →
    ∃ w' c', (storeCells ⟨blk, o + off, none⟩ vs i).run P w = .ok () w' ∧ w'.heap[blk]? = some (.cells c' e (0, 0)) ∧ c'.size = c.size ∧
      (∀ (j : Nat) (u : Value), fin[j]? = some u → ∃ v, c'[o + j]? = some v ∧ VRel ρ u v) ∧
      w'.heap.size = w.heap.size ∧ w'.os = w.os ∧ w'.tape = w.tape ∧ w'.output = w.output ∧ ∀ b, b ≠ blk → w'.heap[b]? = w.heap[b]?
  | [], vs, w, c, off, i, hg, _, hl, _, _, _, hc => by
    have : vs = [] := by cases vs with | nil => rfl | cons _ _ => simp at hl
    subst this
    exact ⟨w, c, rfl, hg, rfl, fun j u hu => hc j u (by simp only [List.length_nil]; omega) hu, rfl, rfl, rfl, rfl, fun _ _ => rfl⟩
  | u :: us, [], _, _, _, _, _, _, hl, _, _, _, _ => by simp at hl
  | u :: us, v :: vs, w, c, off, i, hg, hle, hl, hp, hv, hf, hc => by
    obtain ⟨v0, hv0, hr0⟩ := hv 0 u rfl
    simp only [List.getElem?_cons_zero, Option.some.injEq] at hv0
    subst hv0
    have hone := plain_rel hr0 (hp u List.mem_cons_self)
    have hlt : o + off + i < c.size := by simp at hle; omega
    have hcell : w.cell? ⟨blk, o + off + i, none⟩ = some c[o + off + i] := by rw [cell_of_row w blk (o + off + i) c e (0, 0) hg]; exact Array.getElem?_eq_getElem hlt
    have hfr : w.frozen? ⟨blk, o + off + i, none⟩ = false := frozen_of_row w blk (o + off + i) c e hg
    have hw1 := heap_setCell_same w blk (o + off + i) c e v hg
    have hst : (store ((⟨blk, o + off, none⟩ : Addr).add i) v).run P w = .ok () (w.setCell ⟨blk, o + off + i, none⟩ v) := by
      rw [run_store P w _ v _ hone, add_at, hcell]
      simp [hfr]
    obtain ⟨w', c', h1, h2, h3, h4, h5, h6, h7, h8, h9⟩ := run_storeCells (ρ := ρ) (o := o) (fin := fin) us vs (w.setCell ⟨blk, o + off + i, none⟩ v) (c.setIfInBounds (o + off + i) v) off (i + 1) hw1
      (by simp at hle ⊢; omega) (by simpa using hl) (fun x hx => hp x (List.mem_cons_of_mem _ hx)) (fun j x hx => hv (j + 1) x hx)
      (fun j x hx => by have := hf (j + 1) x hx; rwa [show off + i + (j + 1) = off + (i + 1) + j by omega] at this)
      (fun j x hj hx => by
        by_cases ej : j = off + i
        · subst ej
          have := hf 0 u rfl
          rw [Nat.add_zero, hx] at this
          cases this
          refine ⟨v, ?_, hr0⟩
          rw [show o + (off + i) = o + off + i by omega]; simp [hlt]
        · rw [Array.getElem?_setIfInBounds_ne (by omega)]
          exact hc j x (by simp only [List.length_cons]; omega) hx)
    refine ⟨w', c', ?_, h2, by rw [h3]; simp, h4, by rw [h5]; simp, h6, h7, h8, fun b hb => by rw [h9 b hb]; exact heap_setCell_other w _ b v hb⟩
    simp only [storeCells, Sem.run_bind]
    rw [hst, Result.andThen_ok]
    exact h1

theorem Rel.write {ρ : Ren} {a : Act} {w w' : World} (h : Rel C ρ S a w) {k : Nat} {b : Blk} {sp : Spot} (hk : S.H k = .live b) (ho : b.own = true) (hsp : ρ k = some sp)
    {cells : List Value} (hlen : cells.length ≤ sp.size) {c' : Array Value} (hg : w'.heap[sp.block]? = some (.cells c' b.elem (0, 0))) (hs : sp.off + sp.size = c'.size)
    (hc : ∀ (j : Nat) (u : Value), cells[j]? = some u → ∃ v, c'[sp.off + j]? = some v ∧ VRel ρ u v)
    (hz : w'.heap.size = w.heap.size) (h1 : w'.os = w.os) (h2 : w'.tape = w.tape) (h3 : w'.output = w.output) (hoth : ∀ x, x ≠ sp.block → w'.heap[x]? = w.heap[x]?) :
    Rel C ρ ⟨S.T, wr [(k, .live ⟨cells, b.elem, true, b.step⟩)] S.H⟩ a w' := by
  rw [wr_one]
  refine ⟨h.size, h.defers, h.temps, ⟨fun k' (hf : upd S.H k _ k' = .fresh) => ?_, fun k' b' (hb' : upd S.H k _ k' = .live b') => ?_, ?_⟩, ⟨h1.trans h.frame.os, h2.trans h.frame.tape, h3.trans h.frame.output, by have := h.frame.size; omega, fun x hx hW => ?_⟩, fun k' b' sp' (hb' : upd S.H k _ k' = .live b') ho' hsp' => ?_, h.pin⟩
  · by_cases e : k' = k
    · subst e; rw [upd_self] at hf; cases hf
    · rw [upd_ne _ _ e] at hf; exact h.heap.fresh k' hf
  · by_cases e : k' = k
    · subst e; rw [upd_self] at hb'; cases hb'
      refine ⟨sp, hsp, ?_⟩
      obtain ⟨sp2, e1, e2⟩ := h.heap.live k' b hk
      rw [hsp] at e1; cases e1
      rw [BlkOk.own ho] at e2
      rw [BlkOk.own rfl]
      exact ⟨e2.1, c', hg, hs, hlen, hc⟩
    · rw [upd_ne _ _ e] at hb'
      obtain ⟨sp2, e1, e2⟩ := h.heap.live k' b' hb'
      exact ⟨sp2, e1, e2.same (fun nv => hoth _ (Ne.symm (h.heap.apart k k' b b' sp sp2 (Ne.symm e) hk hb' ho nv hsp e1)))⟩
  · intro k1 k2 b1 b2 sp1 sp2 hne (hb1 : upd S.H k _ k1 = .live b1) (hb2 : upd S.H k _ k2 = .live b2) ho1 nv e1 e2
    have get : ∀ kk bb, upd S.H k (.live ⟨cells, b.elem, true, b.step⟩) kk = .live bb → ∃ b0, S.H kk = .live b0 ∧ (b0.own = bb.own) ∧ (¬ Void bb → ¬ Void b0) := fun kk bb hh => by
      by_cases e : kk = k
      · subst e; rw [upd_self] at hh; cases hh; exact ⟨b, hk, ho, fun _ => not_void ho⟩
      · rw [upd_ne _ _ e] at hh; exact ⟨bb, hh, rfl, id⟩
    obtain ⟨x1, a1, a2, _⟩ := get k1 b1 hb1
    obtain ⟨x2, a3, _, a4⟩ := get k2 b2 hb2
    exact h.heap.apart k1 k2 x1 x2 sp1 sp2 hne a1 a3 (a2.trans ho1) (a4 nv) e1 e2
  · have hne : x ≠ sp.block := fun e => by
      rcases h.owned k b sp hk ho hsp with hw | hw
      · rw [e] at hW; exact hW hw
      · omega
    rw [hoth x hne]; exact h.frame.block x hx hW
  · by_cases e : k' = k
    · subst e; exact h.owned k' b sp' hk ho hsp'
    · rw [upd_ne _ _ e] at hb'; exact h.owned k' b' sp' hb' ho' hsp'

def plainAll (l : List Value) : Bool := l.all plainB
theorem does_store {t : TypeId} {x y : Operand} {k off : Nat} {b : Blk} {v : Value} {cells : List Value} (hs : shapeAt ops S i = some (.store t x y, true)) (hx : ev S x = some (.pointer (some ⟨k, off, none⟩)))
    (hy : ev S y = some v) (hH : S.H k = .live b) (ho : b.own = true) (hz : (P.info? t).map (·.size) = some v.cells.toList.length) (hp : plainAll v.cells.toList = true)
    (hle : Nat.ble (off + v.cells.toList.length) b.cells.length = true) (hc : setL b.cells off v.cells.toList = cells) : Does C P ops i S ⟨[k], undef, [(k, .live ⟨cells, b.elem, true, b.step⟩)]⟩ :=
  .of_run hs fun o hop S' ρ a w hT hH' hr => by
    have hrx := ev_rel hr (by rw [hT x (by simp [Op.operands])]; exact hx)
    have hry := ev_rel hr (by rw [hT y (by simp [Op.operands])]; exact hy)
    generalize hax : a.eval x = ax at hrx
    generalize hay : a.eval y = ay at hry
    cases hrx with
    | ptr _ _ sp hk =>
      have hH2 : S'.H k = .live b := by rw [hH' k (by simp)]; exact hH
      obtain ⟨sp', hk', hb⟩ := hr.heap.live k b hH2
      rw [hk] at hk'; cases hk'
      have hb2 := hb
      rw [BlkOk.own ho] at hb2
      obtain ⟨_, c, hg, hcs, hcl, hcc⟩ := hb2
      obtain ⟨e1, e2⟩ := hry.cells
      have hle' := Nat.le_of_ble_eq_true hle
      have hget := setL_get v.cells.toList b.cells off hle'
      obtain ⟨w', c', r1, r2, r3, r4, r5, r6, r7, r8, r9⟩ := run_storeCells (P := P) (ρ := ρ) (blk := sp.block) (o := sp.off) (e := b.elem) (fin := setL b.cells off v.cells.toList) v.cells.toList ay.cells.toList w c off 0 hg
        (by omega) (by simpa using e1) (fun u hu => List.all_eq_true.1 hp u hu) (fun j u hu => by obtain ⟨z, z1, z2⟩ := e2 j u hu; exact ⟨z, by simpa using z1, z2⟩)
        (fun j u hu => by
          obtain ⟨hj, _⟩ := List.getElem?_eq_some_iff.1 hu
          rw [hget, if_pos (by omega), show off + 0 + j - off = j by omega]; exact hu)
        (fun j u hj hu => by
          rw [hget, if_neg (by omega)] at hu
          exact hcc j u hu)
      subst hc
      rw [Option.map_eq_some_iff] at hz
      obtain ⟨inf, hi, hsz⟩ := hz
      refine ⟨.skip, w', ρ, undef, ?_, .inr ⟨rfl, rfl⟩, .of_only (only_flat rfl), ?_⟩
      · have hne : ¬ (ay.cells.size ≠ inf.size) := by rw [hsz, e1]; simp
        simp only [execOp, hop, hax, hay, Instr.storeAt, Instr.sureAddr, storeVar, Sem.run_bind, Sem.run_pure, Result.andThen_ok, run_size hi, Sem.run_ite, hne, if_false, r1]
      · exact Rel.write hr hH2 ho hk (by rw [setL_length]; omega) r2 (by rw [r3]; exact hcs) r4 r5 r6 r7 r8 r9
end
end Go.Proofs.Ytigllakcfdoagaa.Am
