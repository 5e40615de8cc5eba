import Derived.Test.YtigllakcfdoagaaAm2
namespace Go.Proofs.Ytigllakcfdoagaa.Am
open Go

/-! ### 8. Code -/
def Lift (C : Ctx) (Q : Exit → St → Prop) : Exit → Act → World → Prop := fun e a w => ∃ ρ S, Q e S ∧ Rel C ρ S a w
def AW (C : Ctx) (P : Program) (c : Code) (S : St) (Q : Exit → St → Prop) : Prop := ∀ ρ a w, Rel C ρ S a w → c.wp P (Lift C Q) a w
def thenQ (K : St → Prop) (Q : Exit → St → Prop) : Exit → St → Prop
  | .normal, S => K S
  | e, S => Q e S
def blockQ (id : Nat) (Q : Exit → St → Prop) : Exit → St → Prop
  | .exit id', S => (id' = id → Q .normal S) ∧ (id' ≠ id → Q (.exit id') S)
  | e, S => Q e S

section
variable {C : Ctx} {P : Program} {S S1 : St} {Q : Exit → St → Prop}
theorem aw_mono {c : Code} {Q' : Exit → St → Prop} (h : AW C P c S Q) (hq : ∀ e S, Q e S → Q' e S) : AW C P c S Q' :=
  fun ρ a w hr => wp_mono (h ρ a w hr) fun e _ _ ⟨ρ', S', h1, h2⟩ => ⟨ρ', S', hq e S' h1, h2⟩
theorem aw_seq {c x y : Code} (hc : c = .seq x y) (h : AW C P x S (thenQ (fun S' => AW C P y S' Q) Q)) : AW C P c S Q := by
  subst hc
  intro ρ a w hr
  refine wp_seq (wp_mono (h ρ a w hr) ?_)
  rintro e a' w' ⟨ρ', S', h1, h2⟩
  cases e with
  | normal => exact h1 ρ' a' w' h2
  | _ => exact ⟨ρ', S', h1, h2⟩
theorem aw_skip {c : Code} (hc : c = .skip) (h : Q .normal S) : AW C P c S Q := by subst hc; exact fun ρ a w hr => wp_skip ⟨ρ, S, h, hr⟩
theorem aw_ret {c : Code} (hc : c = .ret) (h : Q .ret S) : AW C P c S Q := by subst hc; exact fun ρ a w hr => wp_ret ⟨ρ, S, h, hr⟩
theorem aw_exit {c : Code} {id : Nat} (hc : c = .exit id) (h : Q (.exit id) S) : AW C P c S Q := by subst hc; exact fun ρ a w hr => wp_exit ⟨ρ, S, h, hr⟩
theorem aw_block {c x : Code} {id : Nat} (hc : c = .block id x) (h : AW C P x S (blockQ id Q)) : AW C P c S Q := by
  subst hc
  intro ρ a w hr
  refine wp_block (wp_mono (h ρ a w hr) ?_)
  rintro e a' w' ⟨ρ', S', h1, h2⟩
  cases e with
  | exit id' =>
    simp only [Exit.inBlock]
    split
    · rename_i e; exact ⟨ρ', S', h1.1 e, h2⟩
    · rename_i e; exact ⟨ρ', S', h1.2 e, h2⟩
  | _ => exact ⟨ρ', S', h1, h2⟩
theorem aw_cond {c x y : Code} {o : Operand} {b : Bool} (hc : c = .cond o x y) (ho : ev S o = some (.bool b)) (h1 : b = true → AW C P x S Q) (h2 : b = false → AW C P y S Q) : AW C P c S Q := by
  subst hc
  intro ρ a w hr
  have hv := ev_rel hr ho
  generalize hx : a.eval o = ax at hv
  cases hv
  exact wp_cond_split hx (fun e => h1 e ρ a w hr) (fun e => h2 e ρ a w hr)
theorem aw_true {c x y : Code} {o : Operand} (hc : c = .cond o x y) (ho : ev S o = some (.bool true)) (h1 : AW C P x S Q) : AW C P c S Q := aw_cond hc ho (fun _ => h1) (fun e => by cases e)
theorem aw_false {c x y : Code} {o : Operand} (hc : c = .cond o x y) (ho : ev S o = some (.bool false)) (h1 : AW C P y S Q) : AW C P c S Q := aw_cond hc ho (fun e => by cases e) (fun _ => h1)

/-- A state that says less. -/
def Weak (C : Ctx) (S S' : St) : Prop := ∀ ρ a w, Rel C ρ S a w → ∃ ρ', Rel C ρ' S' a w
theorem Weak.refl (C : Ctx) (S : St) : Weak C S S := fun ρ _ _ h => ⟨ρ, h⟩
theorem aw_weak {c : Code} (hw : Weak C S S1) (h : AW C P c S1 Q) : AW C P c S Q := fun ρ a w hr => let ⟨ρ', h'⟩ := hw ρ a w hr; h ρ' a w h'
def weakQ (C : Ctx) (Q : Exit → St → Prop) : Exit → St → Prop := fun e S => ∃ S', Weak C S S' ∧ Q e S'
theorem aw_weakQ {c : Code} (h : AW C P c S (weakQ C Q)) : AW C P c S Q := by
  intro ρ a w hr
  refine wp_mono (h ρ a w hr) ?_
  rintro e a' w' ⟨ρ', S', ⟨S2, h1, h2⟩, h3⟩
  obtain ⟨ρ2, h4⟩ := h1 ρ' a' w' h3
  exact ⟨ρ2, S2, h2, h4⟩
/-- A loop: a family of states, a measure. -/
theorem aw_loop {σ : Type} {c x : Code} (I : σ → St) (μ : σ → Nat) (s0 : σ) (hc : c = .loop x) (h0 : Weak C S (I s0))
    (round : ∀ s, AW C P x (I s) (thenQ (fun S' => ∃ s', Weak C S' (I s') ∧ μ s' < μ s) Q)) : AW C P c S Q := by
  subst hc
  intro ρ a w hr
  obtain ⟨ρ0, hr0⟩ := h0 ρ a w hr
  intro b k cs
  have key : ∀ n s ρ a w, μ s < n → Rel C ρ (I s) a w → ∃ e a' w', Lift C Q e a' w' ∧ Arrives P (lone (b.at a (.code x :: .inLoop x :: k)) cs w) b k cs e a' w' := by
    intro n
    induction n with
    | zero => intro s ρ a w h; omega
    | succ n ih =>
      intro s ρ a w hn hr
      obtain ⟨e, a1, w1, hq, harr⟩ := round s ρ a w hr b (.inLoop x :: k) cs
      obtain ⟨ρ', S', h1, h2⟩ := hq
      cases e with
      | normal =>
        obtain ⟨s', hw, hlt⟩ := h1
        obtain ⟨ρ2, h3⟩ := hw ρ' a1 w1 h2
        obtain ⟨e2, a2, w2, hq2, harr2⟩ := ih s' ρ2 a1 w1 (by omega) h3
        exact ⟨e2, a2, w2, hq2, .of_steps (Steps.trans harr (.one step_inLoop)) harr2⟩
      | exit id => exact ⟨_, a1, w1, ⟨ρ', S', h1, h2⟩, .pass (x := .inLoop x) rfl (fun _ _ => .inl (by simp)) harr⟩
      | goto l => exact ⟨_, a1, w1, ⟨ρ', S', h1, h2⟩, .pass (x := .inLoop x) rfl (fun _ _ => .inl (by simp)) harr⟩
      | ret => exact ⟨_, a1, w1, ⟨ρ', S', h1, h2⟩, .pass (x := .inLoop x) rfl (fun _ _ => .inl (by simp)) harr⟩
      | panic ch => exact ⟨_, a1, w1, ⟨ρ', S', h1, h2⟩, .pass (x := .inLoop x) rfl (fun _ _ => .inl (by simp)) harr⟩
      | outgrown => exact ⟨_, a1, w1, ⟨ρ', S', h1, h2⟩, .pass (x := .inLoop x) rfl (fun _ _ => .inl (by simp)) harr⟩
  obtain ⟨e, a', w', hq, harr⟩ := key (μ s0 + 1) s0 ρ0 a w (by omega) hr0
  exact ⟨e, a', w', hq, .of_steps (.one step_loop) harr⟩

/-- Regions. -/
theorem aw_plain {c : Code} {id : Nat} {ops : Array Oper} {steps : List Step} (hc : c = .region id ops false) (hd : dstB ops C.n = true) (hn : steps.length = ops.size)
    (hr : Runs C P ops 0 S steps S1) (hq : Q .normal S1) : AW C P c S Q := by
  subst hc
  exact fun ρ a w h => region_plain hd hr hn h (fun ρ' a' w' h' => ⟨ρ', S1, hq, h'⟩)
theorem aw_draws {c : Code} {id : Nat} {ops : Array Oper} {steps : List Step} (A : List (List Nat)) (hm : P.follows .mixedOrders = true) (hc : c = .region id ops true) (hd : dstB ops C.n = true)
    (hn : steps.length = ops.size) (hA : (ancOk ops A && tempsApart ops A && heapApart ops steps A) = true) (hr : Runs C P ops 0 S steps S1) (hq : Q .normal S1) : AW C P c S Q := by
  subst hc
  exact fun ρ a w h => region_draws hm hd hr hn hA h (fun ρ' a' w' h' => ⟨ρ', S1, hq, h'⟩)
end

/-! ### 9. States told by lists -/
def ofT : List (Nat × Value) → Nat → Option Value
  | [], _ => none
  | (t, v) :: l, n => bif Nat.beq n t then some v else ofT l n
def ofH (d : Cell) : List (Nat × Blk) → Nat → Cell
  | [], _ => d
  | (k, b) :: l, n => bif Nat.beq n k then .live b else ofH d l n
def base (m k : Nat) : Cell := bif Nat.blt k m then .gone else .fresh
def mkSt (m : Nat) (T : List (Nat × Value)) (L : List (Nat × Blk)) : St := ⟨ofT T, fun k => ofH (base m k) L k⟩
theorem ofT_some {T : List (Nat × Value)} {t : Nat} {v : Value} (h : ofT T t = some v) : (t, v) ∈ T := by
  induction T with
  | nil => cases h
  | cons x l ih =>
    obtain ⟨t', v'⟩ := x
    simp only [ofT] at h
    cases hb : Nat.beq t t' with
    | true => rw [hb] at h; simp only [cond_true, Option.some.injEq] at h; rw [Nat.eq_of_beq_eq_true hb, h]; exact List.mem_cons_self
    | false => rw [hb] at h; exact List.mem_cons_of_mem _ (ih h)
theorem ofH_live {L : List (Nat × Blk)} {d : Cell} (hd : ∀ b, d ≠ .live b) {k : Nat} {b : Blk} (h : ofH d L k = .live b) : (k, b) ∈ L := by
  induction L with
  | nil => exact absurd h (hd b)
  | cons x l ih =>
    obtain ⟨k', b'⟩ := x
    simp only [ofH] at h
    cases hb : Nat.beq k k' with
    | true => rw [hb] at h; simp only [cond_true, Cell.live.injEq] at h; rw [Nat.eq_of_beq_eq_true hb, h]; exact List.mem_cons_self
    | false => rw [hb] at h; exact List.mem_cons_of_mem _ (ih h)
theorem ofH_key {L : List (Nat × Blk)} {d : Cell} {k : Nat} (h : k ∈ L.map (·.1)) : ∃ b, ofH d L k = .live b := by
  induction L with
  | nil => cases h
  | cons x l ih =>
    obtain ⟨k', b'⟩ := x
    simp only [ofH]
    cases hb : Nat.beq k k' with
    | true => exact ⟨b', rfl⟩
    | false =>
      simp only [List.map_cons, List.mem_cons] at h
      rcases h with h | h
      · subst h; simp at hb
      · exact ih h
theorem ofH_nokey {L : List (Nat × Blk)} {d : Cell} {k : Nat} (h : k ∉ L.map (·.1)) : ofH d L k = d := by
  induction L with
  | nil => rfl
  | cons x l ih =>
    obtain ⟨k', b'⟩ := x
    simp only [List.map_cons, List.mem_cons, not_or] at h
    simp only [ofH]
    cases hb : Nat.beq k k' with
    | true => exact absurd (Nat.eq_of_beq_eq_true hb) h.1
    | false => exact ih h.2
/-- What is asked of the old state: the temporaries, the blocks. -/
def AllT (S : St) : List (Nat × Value) → Prop
  | [] => True
  | (t, v) :: l => S.T t = some v ∧ AllT S l
def AllH (S : St) : List (Nat × Blk) → Prop
  | [] => True
  | (k, b) :: l => S.H k = .live b ∧ AllH S l
theorem AllT.mem {S : St} {T : List (Nat × Value)} (h : AllT S T) {t : Nat} {v : Value} (hm : (t, v) ∈ T) : S.T t = some v := by
  induction T with
  | nil => cases hm
  | cons x l ih =>
    cases hm with
    | head => exact h.1
    | tail _ hm => exact ih h.2 hm
theorem AllH.mem {S : St} {L : List (Nat × Blk)} (h : AllH S L) {k : Nat} {b : Blk} (hm : (k, b) ∈ L) : S.H k = .live b := by
  induction L with
  | nil => cases hm
  | cons x l ih =>
    cases hm with
    | head => exact h.1
    | tail _ hm => exact ih h.2 hm
/-- Every name in the lists is one of the blocks told. -/
def keyB (m : Nat) (L : List (Nat × Blk)) (k : Nat) : Prop := (Nat.blt k m || (L.map (·.1)).any (Nat.beq k)) = true
def ClosedV (p : Nat → Prop) : List Value → Prop
  | [] => True
  | v :: l => Only p v ∧ ClosedV p l
theorem ClosedV.mem {p : Nat → Prop} {l : List Value} (h : ClosedV p l) {v : Value} (hm : v ∈ l) : Only p v := by
  induction l with
  | nil => cases hm
  | cons x l ih =>
    cases hm with
    | head => exact h.1
    | tail _ hm => exact ih h.2 hm
def ClosedT (p : Nat → Prop) : List (Nat × Value) → Prop
  | [] => True
  | (_, v) :: l => Only p v ∧ ClosedT p l
def ClosedL (p : Nat → Prop) : List (Nat × Blk) → Prop
  | [] => True
  | (_, b) :: l => (∀ v, v ∈ b.cells → Only p v) ∧ ClosedL p l
theorem ClosedT.mem {p : Nat → Prop} {T : List (Nat × Value)} (h : ClosedT p T) {t : Nat} {v : Value} (hm : (t, v) ∈ T) : Only p v := by
  induction T with
  | nil => cases hm
  | cons x l ih =>
    cases hm with
    | head => exact h.1
    | tail _ hm => exact ih h.2 hm
theorem ClosedL.mem {p : Nat → Prop} {L : List (Nat × Blk)} (h : ClosedL p L) {k : Nat} {b : Blk} (hm : (k, b) ∈ L) : ∀ v, v ∈ b.cells → Only p v := by
  induction L with
  | nil => cases hm
  | cons x l ih =>
    cases hm with
    | head => exact h.1
    | tail _ hm => exact ih h.2 hm

theorem BlkOk.congr {ρ ρ' : Ren} {p : Nat → Prop} {w : World} {sp : Spot} {b : Blk} (h : BlkOk ρ w sp b) (hc : ∀ v, v ∈ b.cells → Only p v) (hp : ∀ k, p k → ρ k = ρ' k) : BlkOk ρ' w sp b :=
  h.map rfl rfl rfl (Nat.le_refl _) (fun _ u hu => ⟨u, hu, fun _ r => r.congr (hc u (List.mem_of_getElem? hu)) hp⟩)

theorem weak_to {C : Ctx} {S : St} {T : List (Nat × Value)} {L : List (Nat × Blk)} (hT : AllT S T) (hL : AllH S L) (cT : ClosedT (keyB C.m L) T) (cL : ClosedL (keyB C.m L) L) : Weak C S (mkSt C.m T L) := by
  intro ρ a w h
  have hdf : ∀ k b, base C.m k ≠ .live b := fun k b e => by unfold base at e; cases hh : Nat.blt k C.m <;> rw [hh] at e <;> cases e
  let ρ' : Ren := fun k => bif (Nat.blt k C.m || (L.map (·.1)).any (Nat.beq k)) then ρ k else none
  have hp : ∀ k, keyB C.m L k → ρ k = ρ' k := fun k hk => by
    have hk' : (Nat.blt k C.m || (L.map (·.1)).any (Nat.beq k)) = true := hk
    simp only [ρ', hk', cond_true]
  have hsub : ∀ k sp, ρ' k = some sp → ρ k = some sp := fun k sp hk => by
    simp only [ρ'] at hk
    cases hb : (Nat.blt k C.m || (L.map (·.1)).any (Nat.beq k)) with
    | true => rw [hb] at hk; exact hk
    | false => rw [hb] at hk; cases hk
  have hlive : ∀ k b, ofH (base C.m k) L k = .live b → S.H k = .live b ∧ (k, b) ∈ L ∧ keyB C.m L k := fun k b hk => by
    have hm := ofH_live (hdf k) hk
    exact ⟨hL.mem hm, hm, by unfold keyB; rw [any_beq.2 (List.mem_map.2 ⟨(k, b), hm, rfl⟩)]; simp⟩
  refine ⟨ρ', h.size, h.defers, fun t v hv => ?_, ⟨fun k hk => ?_, fun k b hk => ?_, ?_⟩, h.frame, fun k b sp hk ho hsp => ?_, fun k hk => ?_⟩
  · have hm := ofT_some hv
    obtain ⟨v', h1, h2⟩ := h.temps t v (hT.mem hm)
    exact ⟨v', h1, h2.congr (cT.mem hm) hp⟩
  · have hk2 : ofH (base C.m k) L k = .fresh := hk
    have hn : ¬ (Nat.blt k C.m || (L.map (·.1)).any (Nat.beq k)) = true := fun hb => by
      by_cases hm : k ∈ L.map (·.1)
      · obtain ⟨b, hb'⟩ := ofH_key (d := base C.m k) hm
        rw [hb'] at hk2; cases hk2
      · rw [ofH_nokey hm] at hk2
        rw [Bool.or_eq_true] at hb
        rcases hb with hb | hb
        · unfold base at hk2; rw [hb] at hk2; cases hk2
        · exact hm (any_beq.1 hb)
    simp only [ρ', hn, cond_false]
  · obtain ⟨h1, h2, h3⟩ := hlive k b hk
    obtain ⟨sp, e1, e2⟩ := h.heap.live k b h1
    exact ⟨sp, by rw [← hp k h3]; exact e1, e2.congr (cL.mem h2) hp⟩
  · intro k1 k2 b1 b2 sp1 sp2 hne h1 h2 ho nv e1 e2
    exact h.heap.apart k1 k2 b1 b2 sp1 sp2 hne (hlive k1 b1 h1).1 (hlive k2 b2 h2).1 ho nv (hsub _ _ e1) (hsub _ _ e2)
  · exact h.owned k b sp (hlive k b hk).1 ho (hsub _ _ hsp)
  · obtain ⟨sp, p1, p2⟩ := h.pin k hk
    refine ⟨sp, p1, ?_⟩
    rw [← hp k (by unfold keyB; rw [show Nat.blt k C.m = true from Nat.ble_eq_true_of_le hk]; rfl)]; exact p2

/-! ### 10. Functions: what a call does -/
/-- The blocks told, and nothing on the others. -/
structure HOkL (ρ : Ren) (w : World) (L : List (Nat × Blk)) : Prop where
  live : ∀ k b, (k, b) ∈ L → ∃ sp, ρ k = some sp ∧ BlkOk ρ w sp b
  apart : ∀ k k' b b' sp sp', k ≠ k' → (k, b) ∈ L → (k', b') ∈ L → b.own = true → ¬ Void b' → ρ k = some sp → ρ k' = some sp' → sp.block ≠ sp'.block
def OwnSet (ρ : Ren) (L : List (Nat × Blk)) : Nat → Prop := fun x => ∃ k b sp, (k, b) ∈ L ∧ b.own = true ∧ ρ k = some sp ∧ sp.block = x
/-- Called with these arguments, where the blocks 'pre' (numbers 0 to m - 1) lie: the value; the blocks 'post': those of 'pre' that are written, and new ones (numbers from m on). -/
def AC (P : Program) (f : FuncId) (m : Nat) (args : List Value) (pre : List (Nat × Blk)) (v : Value) (post : List (Nat × Blk)) : Prop :=
  ∀ (ρ : Ren) (w : World) (args' : Array Value), args.length = args'.size → (∀ (j : Nat) (u : Value), args[j]? = some u → ∃ x, args'[j]? = some x ∧ VRel ρ u x) →
    HOkL ρ w pre → (∀ k, k < m → ∃ sp, ρ k = some sp) → (∀ k, m ≤ k → ρ k = none) →
    Calls P f args' w fun e w' => ∃ v' ρ', e = .returned v' ∧ VRel ρ' v v' ∧ (∀ k, k < m → ρ' k = ρ k) ∧ HOkL ρ' w' post ∧
      (∀ k b sp, m ≤ k → (k, b) ∈ post → ρ' k = some sp → w.heap.size ≤ sp.block ∨ OwnSet ρ pre sp.block) ∧ FrameOk w (OwnSet ρ pre) w'

def argsT : Nat → List Value → List (Nat × Value)
  | _, [] => []
  | i, v :: l => (i, v) :: argsT (i + 1) l
theorem argsT_mem {l : List Value} {i t : Nat} {v : Value} (h : (t, v) ∈ argsT i l) : ∃ j, t = i + j ∧ l[j]? = some v := by
  induction l generalizing i with
  | nil => cases h
  | cons x l ih =>
    cases h with
    | head => exact ⟨0, rfl, rfl⟩
    | tail _ h =>
      obtain ⟨j, h1, h2⟩ := ih h
      exact ⟨j + 1, by omega, by simpa using h2⟩

/-- A result, ars the state sees it. -/
def resV (P : Program) (S : St) : ResultVar → Option Value
  | .tmp t => S.T t
  | .cell a t => match S.T a with
    | some (.pointer (some ⟨k, off, none⟩)) => match S.H k with
      | .live b => ldV P t b.cells off
      | _ => none
    | _ => none
def resVs (P : Program) (S : St) : List ResultVar → Option (List Value)
  | [] => some []
  | r :: l => match resV P S r, resVs P S l with
    | some v, some vs => some (v :: vs)
    | _, _ => none
def packV : List Value → Value
  | [v] => v
  | vs => .tuple vs.toArray
def resS (tmps : Array Value) : ResultVar → Sem Value
  | .tmp t => pure (tmps.getD t undef)
  | .cell x t => do loadVar t (← asAddr (tmps.getD x undef))
theorem results_eq (fn : Func) (tmps : Array Value) : results fn tmps = (fn.results.mapM (resS tmps) >>= fun vs => pure (if h : vs.size = 1 then vs[0] else .tuple vs)) := by
  unfold results
  congr 1
theorem resV_run {C : Ctx} {P : Program} {S : St} {ρ : Ren} {a : Act} {w : World} (h : Rel C ρ S a w) {r : ResultVar} {v : Value} (hv : resV P S r = some v) :
    ∃ v', (resS a.tmps r).run P w = .ok v' w ∧ VRel ρ v v' := by
  cases r with
  | tmp t =>
    obtain ⟨v', h1, h2⟩ := h.temps t v hv
    exact ⟨v', by simp [resS, Array.getD_eq_getD_getElem?, h1], h2⟩
  | cell x t =>
    simp only [resV] at hv
    · split at hv
      · rename_i k off hx
        split at hv
        · rename_i b hb
          obtain ⟨p', h1, h2⟩ := h.temps x _ hx
          cases h2 with
          | ptr _ _ sp hk =>
            obtain ⟨sp', h3, h4⟩ := h.heap.live k b hb
            rw [hk] at h3; cases h3
            obtain ⟨v', h5, h6⟩ := ldV_run h4 hv
            exact ⟨v', by simp only [resS, Array.getD_eq_getD_getElem?, h1, Option.getD_some, asAddr, Sem.run_bind, Sem.run_pure, Result.andThen_ok, h5], h6⟩
        · cases hv
      · cases hv
theorem resVs_run {C : Ctx} {P : Program} {S : St} {ρ : Ren} {a : Act} {w : World} (h : Rel C ρ S a w) : ∀ {l : List ResultVar} {vs : List Value}, resVs P S l = some vs →
    ∃ vs', (l.mapM (resS a.tmps)).run P w = .ok vs' w ∧ vs'.length = vs.length ∧ ∀ (j : Nat) (u : Value), vs[j]? = some u → ∃ x, vs'[j]? = some x ∧ VRel ρ u x
  | [], vs, hv => by cases hv; exact ⟨[], by simp, rfl, fun j u hu => by simp at hu⟩
  | r :: l, vs, hv => by
    unfold resVs at hv
    split at hv
    · rename_i v vs0 h1 h2
      cases hv
      obtain ⟨v', e1, e2⟩ := resV_run h h1
      obtain ⟨vs', f1, f2, f3⟩ := resVs_run h h2
      refine ⟨v' :: vs', ?_, by simp [f2], fun j u hu => ?_⟩
      · rw [List.mapM_cons]
        simp only [Sem.run_bind]
        rw [e1, Result.andThen_ok, f1, Result.andThen_ok, Sem.run_pure]
      · cases j with
        | zero => simp only [List.getElem?_cons_zero, Option.some.injEq] at hu ⊢; subst hu; exact ⟨v', rfl, e2⟩
        | succ j => simp only [List.getElem?_cons_succ] at hu ⊢; exact f3 j u hu
    · cases hv

/-- The end of a body. -/
def EndQ (P : Program) (fn : Func) (v : Value) (post : List (Nat × Blk)) : Exit → St → Prop := fun e S =>
  (e = .ret ∨ e = .normal) ∧ ∃ vs, resVs P S fn.results.toList = some vs ∧ packV vs = v ∧ AllH S post
theorem end_ret {P : Program} {fn : Func} {v : Value} {post : List (Nat × Blk)} {S : St} {vs : List Value} (h1 : resVs P S fn.results.toList = some vs) (h2 : packV vs = v) (h3 : AllH S post) : EndQ P fn v post .ret S :=
  ⟨.inl rfl, vs, h1, h2, h3⟩
theorem end_normal {P : Program} {fn : Func} {v : Value} {post : List (Nat × Blk)} {S : St} {vs : List Value} (h1 : resVs P S fn.results.toList = some vs) (h2 : packV vs = v) (h3 : AllH S post) : EndQ P fn v post .normal S :=
  ⟨.inr rfl, vs, h1, h2, h3⟩

theorem packV_rel {ρ : Ren} {vs vs' : List Value} (hl : vs'.length = vs.length) (h : ∀ (j : Nat) (u : Value), vs[j]? = some u → ∃ x, vs'[j]? = some x ∧ VRel ρ u x) :
    VRel ρ (packV vs) (if h : vs'.toArray.size = 1 then vs'.toArray[0] else .tuple vs'.toArray) := by
  match vs, vs', hl, h with
  | [], [], _, _ => exact .tuple _ _ rfl (fun i hi => by simp at hi)
  | [v], [v'], _, h =>
    obtain ⟨x, h1, h2⟩ := h 0 v rfl
    simp only [List.getElem?_cons_zero, Option.some.injEq] at h1
    subst h1
    simpa [packV] using h2
  | v :: u :: l, v' :: u' :: l', hl, h =>
    have : ¬ ((v' :: u' :: l').toArray.size = 1) := by simp
    rw [dif_neg this]
    refine .tuple _ _ (by simpa using hl.symm) (fun i hi => ?_)
    have hi' : i < (v :: u :: l).length := by simpa using hi
    obtain ⟨x, h1, h2⟩ := h i _ (List.getElem?_eq_getElem hi')
    obtain ⟨hx, he⟩ := List.getElem?_eq_some_iff.1 h1
    simp only [List.getElem_toArray]
    rw [he]; exact h2
  | [], _ :: _, hl, _ => simp at hl
  | _ :: _, [], hl, _ => simp at hl
  | [_], _ :: _ :: _, hl, _ => simp at hl
  | _ :: _ :: _, [_], hl, _ => simp at hl

/-- A function's contract, out of the walk of its body. -/
theorem ac_intro {P : Program} {f : FuncId} {fn : Func} {c : Code} {m : Nat} {args : List Value} {pre post : List (Nat × Blk)} {v : Value}
    (hf : P.funcs[f]? = some fn) (hb : fn.body = some c) (hn : Nat.ble args.length fn.ntmps = true) (hpo : (post.all fun x => x.2.own) = true)
    (h : ∀ w0 W pin, AW ⟨w0, W, fn.ntmps, m, pin⟩ P c (mkSt m (argsT 0 args) pre) (EndQ P fn v post)) : AC P f m args pre v post := by
  intro ρ w args' hl ha hp hlow hhigh
  have hle := Nat.le_of_ble_eq_true hn
  refine calls_of_wp hf hb ?_
  have hrel : Rel ⟨w, OwnSet ρ pre, fn.ntmps, m, ρ⟩ ρ (mkSt m (argsT 0 args) pre) { tmps := args' ++ Array.replicate (fn.ntmps - args'.size) undef, defers := [] } w := by
    have hdf : ∀ k b, base m k ≠ .live b := fun k b e => by unfold base at e; cases hh : Nat.blt k m <;> rw [hh] at e <;> cases e
    refine ⟨by simp; omega, rfl, fun t u hu => ?_, ⟨fun k hk => ?_, fun k b hk => ?_, ?_⟩, FrameOk.refl _ _, fun k b sp hk ho hsp => ?_, fun k hk => ?_⟩
    · obtain ⟨j, h1, h2⟩ := argsT_mem (ofT_some hu)
      obtain ⟨x, h3, h4⟩ := ha j u h2
      have : t = j := by omega
      subst this
      refine ⟨x, ?_, h4⟩
      obtain ⟨hj, _⟩ := Array.getElem?_eq_some_iff.1 h3
      rw [Array.getElem?_append_left hj]; exact h3
    · have hk2 : ofH (base m k) pre k = .fresh := hk
      refine hhigh k ?_
      rcases Nat.lt_or_ge k m with hlt | hge
      · exfalso
        by_cases hmem : k ∈ pre.map (·.1)
        · obtain ⟨b, hb'⟩ := ofH_key (d := base m k) hmem
          rw [hb'] at hk2; cases hk2
        · rw [ofH_nokey hmem] at hk2
          unfold base at hk2; rw [show Nat.blt k m = true from Nat.ble_eq_true_of_le hlt] at hk2; cases hk2
      · exact hge
    · exact hp.live k b (ofH_live (hdf k) hk)
    · intro k1 k2 b1 b2 sp1 sp2 hne h1 h2 ho nv e1 e2
      exact hp.apart k1 k2 b1 b2 sp1 sp2 hne (ofH_live (hdf k1) h1) (ofH_live (hdf k2) h2) ho nv e1 e2
    · exact .inl ⟨k, b, sp, ofH_live (hdf k) hk, ho, hsp, rfl⟩
    · obtain ⟨sp, hs⟩ := hlow k hk
      exact ⟨sp, hs, hs⟩
  refine wp_mono (h w (OwnSet ρ pre) ρ ρ _ w hrel) ?_
  rintro e a' w' ⟨ρ1, S1, ⟨he, vs, hvs, rfl, hpost⟩, hr⟩
  obtain ⟨vs', r1, r2, r3⟩ := resVs_run (P := P) hr hvs
  have hres : (results fn a'.tmps).run P w' = .ok (if h : vs'.toArray.size = 1 then vs'.toArray[0] else .tuple vs'.toArray) w' := by
    rw [results_eq]
    rw [show fn.results = fn.results.toList.toArray from rfl]
    simp only [Sem.run_bind]
    rw [List.mapM_toArray]
    simp only [Sem.run_map]
    rw [r1]
    rfl
  have fin : ∃ v', (results fn a'.tmps).run P w' = .ok v' w' ∧ ∃ v'' ρ', Ending.returned v' = .returned v'' ∧ VRel ρ' (packV vs) v'' ∧ (∀ k, k < m → ρ' k = ρ k) ∧ HOkL ρ' w' post ∧
      (∀ k b sp, m ≤ k → (k, b) ∈ post → ρ' k = some sp → w.heap.size ≤ sp.block ∨ OwnSet ρ pre sp.block) ∧ FrameOk w (OwnSet ρ pre) w' := by
    refine ⟨_, hres, _, ρ1, rfl, packV_rel r2 r3, fun k hk => ?_, ⟨fun k b hk => hr.heap.live k b (hpost.mem hk), fun k k' b b' sp sp' hne h1 h2 ho nv e1 e2 => ?_⟩, fun k b sp _ hk hsp => ?_, hr.frame⟩
    · obtain ⟨sp, p1, p2⟩ := hr.pin k hk
      have p1' : ρ k = some sp := p1
      rw [p1', p2]
    · exact hr.heap.apart k k' b b' sp sp' hne (hpost.mem h1) (hpost.mem h2) ho nv e1 e2
    · exact (hr.owned k b sp (hpost.mem hk) (List.all_eq_true.1 hpo (k, b) hk) hsp).symm
  rcases he with rfl | rfl
  · obtain ⟨v', h1, h2⟩ := fin
    exact ⟨hr.defers, v', h1, h2⟩
  · obtain ⟨v', h1, h2⟩ := fin
    exact ⟨hr.defers, v', h1, h2⟩

/-! ### 11. A call, ars a step: the callee's numbers are turned into the caller's -/
inductive RenV (σ : Nat → Nat) (p : Nat → Prop) : Value → Value → Prop
  | flat (v : Value) (h : Only (fun _ => False) v) : RenV σ p v v
  | ptr (k off : Nat) (h : p k) : RenV σ p (.pointer (some ⟨k, off, none⟩)) (.pointer (some ⟨σ k, off, none⟩))
  | slice (k off len c c' : Nat) (h : p k) : RenV σ p (.slice (some ⟨k, off, none⟩) len c) (.slice (some ⟨σ k, off, none⟩) len c')
  | agg (xs ys : Array Value) (h : xs.size = ys.size) (hv : ∀ i (hi : i < xs.size), RenV σ p xs[i] (ys[i]'(h ▸ hi))) : RenV σ p (.agg xs) (.agg ys)
  | tuple (xs ys : Array Value) (h : xs.size = ys.size) (hv : ∀ i (hi : i < xs.size), RenV σ p xs[i] (ys[i]'(h ▸ hi))) : RenV σ p (.tuple xs) (.tuple ys)
theorem RenV.into {σ : Nat → Nat} {p : Nat → Prop} {ρ0 ρ : Ren} (hp : ∀ j, p j → ρ0 j = ρ (σ j)) {v0 v : Value} (h : RenV σ p v0 v) : ∀ {v' : Value}, VRel ρ v v' → VRel ρ0 v0 v' := by
  induction h with
  | flat v h => intro v' r; rw [r.eq_of_only h]; exact .of_only h
  | ptr k off h => intro v' r; cases r with | ptr _ _ sp hk => exact .ptr k off sp (by rw [hp k h]; exact hk)
  | slice k off len c c' h =>
    intro v' r
    cases r with
    | slice _ _ _ _ cap sp hk hc hs => exact .slice k off len c cap sp (by rw [hp k h]; exact hk) hc hs
    | slice0 _ _ _ A => exact .slice0 k off c A
  | agg xs ys e _ ih => intro v' r; cases r with | agg _ zs e' hv => exact .agg xs zs (e.trans e') (fun i hi => ih i hi (hv i (by omega)))
  | tuple xs ys e _ ih => intro v' r; cases r with | tuple _ zs e' hv => exact .tuple xs zs (e.trans e') (fun i hi => ih i hi (hv i (by omega)))
theorem RenV.out {σ : Nat → Nat} {p : Nat → Prop} {ρ0 ρ : Ren} (hp : ∀ j, p j → ρ0 j = ρ (σ j)) {v0 v : Value} (h : RenV σ p v0 v) : ∀ {v' : Value}, VRel ρ0 v0 v' → VRel ρ v v' := by
  induction h with
  | flat v h => intro v' r; rw [r.eq_of_only h]; exact .of_only h
  | ptr k off h => intro v' r; cases r with | ptr _ _ sp hk => exact .ptr _ off sp (by rw [← hp k h]; exact hk)
  | slice k off len c c' h =>
    intro v' r
    cases r with
    | slice _ _ _ _ cap sp hk hc hs => exact .slice _ off len c' cap sp (by rw [← hp k h]; exact hk) hc hs
    | slice0 _ _ _ A => exact .slice0 _ off c' A
  | agg xs ys e _ ih => intro v' r; cases r with | agg _ zs e' hv => exact .agg ys zs (e.symm.trans e') (fun i hi => ih i (by omega) (hv i (by omega)))
  | tuple xs ys e _ ih => intro v' r; cases r with | tuple _ zs e' hv => exact .tuple ys zs (e.symm.trans e') (fun i hi => ih i (by omega) (hv i (by omega)))

def RenL (σ : Nat → Nat) (p : Nat → Prop) (l0 l : List Value) : Prop := l0.length = l.length ∧ ∀ (j : Nat) (u x : Value), l0[j]? = some u → l[j]? = some x → RenV σ p u x
theorem RenL.flat {σ : Nat → Nat} {p : Nat → Prop} {l : List Value} (h : ∀ v, v ∈ l → Only (fun _ => False) v) : RenL σ p l l :=
  ⟨rfl, fun j u x hu hx => by rw [hu] at hx; cases hx; exact .flat u (h u (List.mem_of_getElem? hu))⟩
theorem RenL.nil {σ : Nat → Nat} {p : Nat → Prop} : RenL σ p [] [] := ⟨rfl, fun j u x hu _ => by simp at hu⟩
theorem RenL.cons {σ : Nat → Nat} {p : Nat → Prop} {u x : Value} {l0 l : List Value} (h : RenV σ p u x) (t : RenL σ p l0 l) : RenL σ p (u :: l0) (x :: l) :=
  ⟨by simp [t.1], fun j a b ha hb => by
    cases j with
    | zero => simp only [List.getElem?_cons_zero, Option.some.injEq] at ha hb; subst ha hb; exact h
    | succ j => simp only [List.getElem?_cons_succ] at ha hb; exact t.2 j a b ha hb⟩
structure RenB (σ : Nat → Nat) (p : Nat → Prop) (b0 b : Blk) : Prop where
  elem : b.elem = b0.elem
  own : b.own = b0.own
  step : b.step = b0.step
  cells : RenL σ p b0.cells b.cells
theorem RenB.void {σ : Nat → Nat} {p : Nat → Prop} {b0 b : Blk} (h : RenB σ p b0 b) : Void b0 ↔ Void b := by
  unfold Void
  have hl := h.cells.1
  rw [h.own]
  constructor
  · rintro ⟨a, c⟩; rw [c] at hl; exact ⟨a, List.length_eq_zero_iff.1 (by simpa using hl.symm)⟩
  · rintro ⟨a, c⟩; rw [c] at hl; exact ⟨a, List.length_eq_zero_iff.1 (by simpa using hl)⟩
theorem RenB.into {σ : Nat → Nat} {p : Nat → Prop} {ρ0 ρ : Ren} (hp : ∀ j, p j → ρ0 j = ρ (σ j)) {b0 b : Blk} (h : RenB σ p b0 b) {w : World} {sp : Spot} (k : BlkOk ρ w sp b) : BlkOk ρ0 w sp b0 := by
  have key : ∀ (i : Nat) (u : Value), b0.cells[i]? = some u → ∃ x, b.cells[i]? = some x ∧ RenV σ p u x := fun i u hu => by
    obtain ⟨hi, _⟩ := List.getElem?_eq_some_iff.1 hu
    have hi' : i < b.cells.length := by have := h.cells.1; omega
    exact ⟨_, List.getElem?_eq_getElem hi', h.cells.2 i u _ hu (List.getElem?_eq_getElem hi')⟩
  exact k.map h.elem.symm h.own.symm h.step.symm (by have := h.cells.1; omega) (fun i u hu => let ⟨x, e1, e2⟩ := key i u hu; ⟨x, e1, fun _ r => e2.into hp r⟩)
theorem RenB.out {σ : Nat → Nat} {p : Nat → Prop} {ρ0 ρ : Ren} (hp : ∀ j, p j → ρ0 j = ρ (σ j)) {b0 b : Blk} (h : RenB σ p b0 b) {w : World} {sp : Spot} (k : BlkOk ρ0 w sp b0) : BlkOk ρ w sp b := by
  have key : ∀ (i : Nat) (u : Value), b.cells[i]? = some u → ∃ x, b0.cells[i]? = some x ∧ RenV σ p x u := fun i u hu => by
    obtain ⟨hi, _⟩ := List.getElem?_eq_some_iff.1 hu
    have hi' : i < b0.cells.length := by have := h.cells.1; omega
    exact ⟨_, List.getElem?_eq_getElem hi', h.cells.2 i _ u (List.getElem?_eq_getElem hi') hu⟩
  exact k.map h.elem h.own h.step (by have := h.cells.1; omega) (fun i u hu => let ⟨x, e1, e2⟩ := key i u hu; ⟨x, e1, fun _ r => e2.out hp r⟩)

/-- Blocks of the callee (numbers j) and of the caller (numbers σ j), one by one. -/
def RenH (σ : Nat → Nat) (p : Nat → Prop) : List (Nat × Blk) → List (Nat × Blk) → Prop
  | [], [] => True
  | (j, b0) :: l0, (k, b) :: l => k = σ j ∧ RenB σ p b0 b ∧ RenH σ p l0 l
  | _, _ => False
theorem RenH.left {σ : Nat → Nat} {p : Nat → Prop} {l0 l : List (Nat × Blk)} (h : RenH σ p l0 l) {j : Nat} {b0 : Blk} (hm : (j, b0) ∈ l0) : ∃ b, (σ j, b) ∈ l ∧ RenB σ p b0 b := by
  induction l0 generalizing l with
  | nil => cases hm
  | cons x l0 ih =>
    cases l with
    | nil => exact h.elim
    | cons y l =>
      obtain ⟨e, hb, ht⟩ := h
      cases hm with
      | head => exact ⟨y.2, by rw [← e]; exact List.mem_cons_self, hb⟩
      | tail _ hm => obtain ⟨b, h1, h2⟩ := ih ht hm; exact ⟨b, List.mem_cons_of_mem _ h1, h2⟩
theorem RenH.right {σ : Nat → Nat} {p : Nat → Prop} {l0 l : List (Nat × Blk)} (h : RenH σ p l0 l) {k : Nat} {b : Blk} (hm : (k, b) ∈ l) : ∃ j b0, k = σ j ∧ (j, b0) ∈ l0 ∧ RenB σ p b0 b := by
  induction l generalizing l0 with
  | nil => cases hm
  | cons x l ih =>
    cases l0 with
    | nil => exact h.elim
    | cons y l0 =>
      obtain ⟨e, hb, ht⟩ := h
      cases hm with
      | head => exact ⟨y.1, y.2, e, List.mem_cons_self, hb⟩
      | tail _ hm => obtain ⟨j, b0, h0, h1, h2⟩ := ih ht hm; exact ⟨j, b0, h0, List.mem_cons_of_mem _ h1, h2⟩

def writesOf (pre post : List (Nat × Blk)) : List (Nat × Cell) := post.map (fun x => (x.1, .live x.2)) ++ (pre.filter (·.2.own)).map (fun x => (x.1, .gone))
theorem writesOf_keys {pre post : List (Nat × Blk)} {k : Nat} : k ∈ (writesOf pre post).map (·.1) ↔ k ∈ post.map (·.1) ∨ ∃ b, (k, b) ∈ pre ∧ b.own = true := by
  simp only [writesOf, List.map_append, List.map_map, List.mem_append, List.mem_map, List.mem_filter, Function.comp]
  constructor
  · rintro (⟨x, h1, h2⟩ | ⟨x, ⟨h1, h3⟩, h2⟩)
    · exact .inl ⟨x, h1, h2⟩
    · exact .inr ⟨x.2, by rw [← h2]; exact h1, h3⟩
  · rintro (⟨x, h1, h2⟩ | ⟨b, h1, h2⟩)
    · exact .inl ⟨x, h1, h2⟩
    · exact .inr ⟨(k, b), ⟨h1, h2⟩, rfl⟩
theorem writesOf_live {pre post : List (Nat × Blk)} {k : Nat} {b : Blk} (h : findW (writesOf pre post) k = some (.live b)) : (k, b) ∈ post := by
  have : (k, Cell.live b) ∈ writesOf pre post := by
    have hk : k ∈ (writesOf pre post).map (·.1) := by
      by_cases hm : k ∈ (writesOf pre post).map (·.1)
      · exact hm
      · rw [findW_none hm] at h; cases h
    obtain ⟨c, h1, h2⟩ := findW_some hk
    rw [h] at h1; cases h1; exact h2
  simp only [writesOf, List.mem_append, List.mem_map, List.mem_filter] at this
  rcases this with ⟨x, h1, h2⟩ | ⟨x, _, h2⟩
  · simp only [Prod.mk.injEq, Cell.live.injEq] at h2; obtain ⟨rfl, rfl⟩ := h2; exact h1
  · simp only [Prod.mk.injEq] at h2; cases h2.2
theorem writesOf_some {pre post : List (Nat × Blk)} {k : Nat} {c : Cell} (h : findW (writesOf pre post) k = some c) : c ≠ .fresh := by
  have hk : k ∈ (writesOf pre post).map (·.1) := by
    by_cases hm : k ∈ (writesOf pre post).map (·.1)
    · exact hm
    · rw [findW_none hm] at h; cases h
  obtain ⟨c', h1, h2⟩ := findW_some hk
  rw [h] at h1; cases h1
  simp only [writesOf, List.mem_append, List.mem_map, List.mem_filter] at h2
  rcases h2 with ⟨x, _, h2⟩ | ⟨x, _, h2⟩ <;> (simp only [Prod.mk.injEq] at h2; rw [← h2.2]; intro e; cases e)

/-- The state of the caller behind a call. -/
theorem Rel.call {C : Ctx} {S : St} {ρ ρ' : Ren} {a : Act} {w w' : World} (h : Rel C ρ S a w) {pre post : List (Nat × Blk)} {new : List Nat}
    (hpre : AllH S pre) (hnew : ∀ k, k ∈ new → S.H k = .fresh ∧ k ∈ post.map (·.1)) (hpost : ∀ k, k ∈ post.map (·.1) → k ∈ new ∨ ∃ b, (k, b) ∈ pre ∧ b.own = true)
    (same : ∀ k, k ∉ new → ρ' k = ρ k) (hp : HOkL ρ' w' post)
    (hnb : ∀ k sp, k ∈ new → ρ' k = some sp → w.heap.size ≤ sp.block ∨ OwnSet ρ pre sp.block) (hfr : FrameOk w (OwnSet ρ pre) w') :
    Ren.le ρ ρ' ∧ Rel C ρ' ⟨S.T, wr (writesOf pre post) S.H⟩ a w' := by
  have hfresh : ∀ k, k ∈ new → ρ k = none := fun k hk => h.heap.fresh k (hnew k hk).1
  have hle : Ren.le ρ ρ' := fun k sp hk => by
    by_cases hn : k ∈ new
    · rw [hfresh k hn] at hk; cases hk
    · rw [same k hn]; exact hk
  -- what is not written
  have old : ∀ k b, findW (writesOf pre post) k = none → S.H k = .live b → ∀ sp, ρ' k = some sp → ρ k = some sp ∧ (¬ Void b → sp.block < w.heap.size ∧ ¬ OwnSet ρ pre sp.block) := by
    intro k b hf hk sp hsp
    have hnk : k ∉ new := fun hn => by rw [(hnew k hn).1] at hk; cases hk
    have hsp' : ρ k = some sp := by rw [← same k hnk]; exact hsp
    obtain ⟨sp2, e1, e2⟩ := h.heap.live k b hk
    rw [hsp'] at e1; cases e1
    refine ⟨hsp', fun nv => ⟨e2.lt nv, ?_⟩⟩
    rintro ⟨k0, b0, sp0, hm, ho, h0, heq⟩
    have hne : k0 ≠ k := fun e => by
      subst e
      have : k0 ∈ (writesOf pre post).map (·.1) := writesOf_keys.2 (.inr ⟨b0, hm, ho⟩)
      obtain ⟨c, hc, _⟩ := findW_some this
      rw [hc] at hf; cases hf
    exact h.heap.apart k0 k b0 b sp0 sp hne (hpre.mem hm) hk ho nv h0 hsp' heq
  have look : ∀ k b, wr (writesOf pre post) S.H k = .live b → (k, b) ∈ post ∨ (findW (writesOf pre post) k = none ∧ S.H k = .live b) := by
    intro k b hk
    unfold wr at hk
    cases hf : findW (writesOf pre post) k with
    | none => rw [hf] at hk; exact .inr ⟨rfl, hk⟩
    | some c => rw [hf] at hk; simp only [Option.getD_some] at hk; subst hk; exact .inl (writesOf_live hf)
  have pkey : ∀ k b, (k, b) ∈ post → k ∈ post.map (·.1) := fun k b hk => List.mem_map.2 ⟨(k, b), hk, rfl⟩
  refine ⟨hle, h.size, h.defers, fun t v hv => ?_, ⟨fun k hk => ?_, fun k b hk => ?_, ?_⟩, ⟨hfr.os.trans h.frame.os, hfr.tape.trans h.frame.tape, hfr.output.trans h.frame.output, Nat.le_trans h.frame.size hfr.size, fun b hb hW => ?_⟩, fun k b sp hk ho hsp => ?_, fun k hk => ?_⟩
  · obtain ⟨v', h1, h2⟩ := h.temps t v hv
    exact ⟨v', h1, h2.mono hle⟩
  · have hk2 : wr (writesOf pre post) S.H k = .fresh := hk
    unfold wr at hk2
    cases hf : findW (writesOf pre post) k with
    | none =>
      rw [hf] at hk2
      have hnk : k ∉ new := fun hn => by
        obtain ⟨c, hc, _⟩ := findW_some (l := writesOf pre post) (writesOf_keys.2 (.inl (hnew k hn).2))
        rw [hc] at hf; cases hf
      rw [same k hnk]; exact h.heap.fresh k hk2
    | some c => rw [hf] at hk2; simp only [Option.getD_some] at hk2; exact absurd hk2 (writesOf_some hf)
  · rcases look k b hk with hm | ⟨hf, hk2⟩
    · exact hp.live k b hm
    · obtain ⟨sp, e1, e2⟩ := h.heap.live k b hk2
      have hnk : k ∉ new := fun hn => by rw [(hnew k hn).1] at hk2; cases hk2
      have hsp : ρ' k = some sp := by rw [same k hnk]; exact e1
      obtain ⟨_, h12⟩ := old k b hf hk2 sp hsp
      exact ⟨sp, hsp, (e2.mono hle).same (fun nv => hfr.block _ (h12 nv).1 (h12 nv).2)⟩
  · intro k1 k2 b1 b2 sp1 sp2 hne h1 h2 ho nv e1 e2
    -- one of the two is told by the callee, the other one is old
    have mix : ∀ k k' b b' sp sp', k ≠ k' → (k, b) ∈ post → findW (writesOf pre post) k' = none → S.H k' = .live b' → ¬ Void b' → ρ' k = some sp → ρ' k' = some sp' → sp.block ≠ sp'.block := by
      intro k k' b b' sp sp' hne hm hf hk' nv hsp hsp'
      obtain ⟨o1, o23⟩ := old k' b' hf hk' sp' hsp'
      obtain ⟨o2, o3⟩ := o23 nv
      by_cases hn : k ∈ new
      · rcases hnb k sp hn hsp with hx | hx
        · omega
        · intro e; rw [e] at hx; exact o3 hx
      · rcases hpost k (pkey k b hm) with hn' | ⟨b0, hb0, ho0⟩
        · exact absurd hn' hn
        · have : ρ k = some sp := by rw [← same k hn]; exact hsp
          exact h.heap.apart k k' b0 b' sp sp' hne (hpre.mem hb0) hk' ho0 nv this o1
    rcases look k1 b1 h1 with m1 | ⟨f1, g1⟩
    · rcases look k2 b2 h2 with m2 | ⟨f2, g2⟩
      · exact hp.apart k1 k2 b1 b2 sp1 sp2 hne m1 m2 ho nv e1 e2
      · exact mix k1 k2 b1 b2 sp1 sp2 hne m1 f2 g2 nv e1 e2
    · rcases look k2 b2 h2 with m2 | ⟨f2, g2⟩
      · exact Ne.symm (mix k2 k1 b2 b1 sp2 sp1 (Ne.symm hne) m2 f1 g1 (not_void ho) e2 e1)
      · exact h.heap.apart k1 k2 b1 b2 sp1 sp2 hne g1 g2 ho nv (old k1 b1 f1 g1 sp1 e1).1 (old k2 b2 f2 g2 sp2 e2).1
  · have hn : ¬ OwnSet ρ pre b := by
      rintro ⟨k0, b0, sp0, hm, ho, h0, heq⟩
      rcases h.owned k0 b0 sp0 (hpre.mem hm) ho h0 with hw | hw
      · rw [heq] at hw; exact hW hw
      · omega
    rw [hfr.block b (by have := h.frame.size; omega) hn]; exact h.frame.block b hb hW
  · have viaOwn : OwnSet ρ pre sp.block → C.W sp.block ∨ C.w0.heap.size ≤ sp.block := by
      rintro ⟨k0, b0, sp0, hm, ho0, h0, heq⟩
      rw [← heq]; exact h.owned k0 b0 sp0 (hpre.mem hm) ho0 h0
    rcases look k b hk with hm | ⟨hf, hk2⟩
    · by_cases hn : k ∈ new
      · rcases hnb k sp hn hsp with hx | hx
        · exact .inr (Nat.le_trans h.frame.size hx)
        · exact viaOwn hx
      · rcases hpost k (pkey k b hm) with hn' | ⟨b0, hb0, ho0⟩
        · exact absurd hn' hn
        · exact viaOwn ⟨k, b0, sp, hb0, ho0, by rw [← same k hn]; exact hsp, rfl⟩
    · exact h.owned k b sp hk2 ho (old k b hf hk2 sp hsp).1
  · obtain ⟨sp, p1, p2⟩ := h.pin k hk
    exact ⟨sp, p1, hle k sp p2⟩

def evs (S : St) : List Operand → Option (List Value)
  | [] => some []
  | x :: l => match ev S x, evs S l with
    | some v, some vs => some (v :: vs)
    | _, _ => none
theorem evs_rel {C : Ctx} {ρ : Ren} {S : St} {a : Act} {w : World} (h : Rel C ρ S a w) : ∀ {l : List Operand} {vs : List Value}, evs S l = some vs →
    vs.length = (l.map a.eval).length ∧ ∀ (j : Nat) (u : Value), vs[j]? = some u → ∃ x, (l.map a.eval)[j]? = some x ∧ VRel ρ u x
  | [], vs, hv => by cases hv; exact ⟨rfl, fun j u hu => by simp at hu⟩
  | x :: l, vs, hv => by
    unfold evs at hv
    split at hv
    · rename_i v vs0 h1 h2
      cases hv
      obtain ⟨f1, f2⟩ := evs_rel h h2
      refine ⟨by simp [f1], fun j u hu => ?_⟩
      cases j with
      | zero => simp only [List.getElem?_cons_zero, Option.some.injEq] at hu; subst hu; exact ⟨_, by simp, ev_rel h h1⟩
      | succ j => simp only [List.getElem?_cons_succ] at hu; simpa using f2 j u hu
    · cases hv
theorem evs_like {S S' : St} {l : List Operand} (h : ∀ x, x ∈ l → ev S' x = ev S x) : evs S' l = evs S l := by
  induction l with
  | nil => rfl
  | cons x l ih => simp only [evs]; rw [h x List.mem_cons_self, ih (fun y hy => h y (List.mem_cons_of_mem _ hy))]
def callB (P : Program) (g : FuncId) : Bool := match P.funcs[g]? with
  | some fn => !(fn.name == "runtime.NumGoroutine") && fn.body.isSome
  | none => false
theorem AllH.like {S S' : St} {L : List (Nat × Blk)} (h : AllH S L) (e : ∀ k, k ∈ L.map (·.1) → S'.H k = S.H k) : AllH S' L := by
  induction L with
  | nil => exact trivial
  | cons x l ih => exact ⟨by rw [e x.1 (by simp)]; exact h.1, ih h.2 (fun k hk => e k (by simp at hk ⊢; exact .inr hk))⟩

section
variable {C : Ctx} {P : Program} {ops : Array Oper} {i : Nat} {S : St}
/-- A call of a function with a contract. 'σ' turns the callee's numbers (below m: the blocks handed over; m to m + r - 1: the new ones) into the caller's. -/
theorem does_call {x : Operand} {ars : Array Operand} {ats : Array TypeId} {g m r : Nat} {firsts caps : Array Value} {vs args0 : List Value} {pre0 post0 pre post : List (Nat × Blk)} {v0 v : Value} (σ : Nat → Nat)
    (hs : shapeAt ops S i = some (.call ⟨.value x, ars, ats⟩, true)) (hf : ev S x = some (.func (.func g) firsts caps)) (hargs : evs S ars.toList = some vs) (hg : callB P g = true)
    (ac : AC P g m args0 pre0 v0 post0) (ha : RenL σ (· < m) args0 (firsts.toList ++ vs ++ caps.toList)) (hpre : RenH σ (· < m) pre0 pre) (hpreS : AllH S pre)
    (hlow : ∀ j, j < m → j ∈ pre0.map (·.1)) (hpm : ∀ j, j ∈ pre0.map (·.1) → j < m) (hinj : ∀ i j, i < m + r → j < m + r → σ i = σ j → i = j)
    (hnew : ∀ j, m ≤ j → j < m + r → S.H (σ j) = .fresh ∧ j ∈ post0.map (·.1)) (hpost : RenH σ (· < m + r) post0 post)
    (hpk : ∀ j, j ∈ post0.map (·.1) → j < m + r ∧ (j < m → ∃ b, (σ j, b) ∈ pre ∧ b.own = true)) (hv : RenV σ (· < m + r) v0 v) :
    Does C P ops i S ⟨pre.map (·.1) ++ (List.range' m r).map σ, v, writesOf pre post⟩ := by
  intro o ho hd S' ρ a w K Q hT hH hr hK
  obtain ⟨hop, hg0⟩ := shape_spec hs ho
  have hg' : guardOf ops S' o = some true := by rw [guard_like hT]; exact hg0
  have hw := guard_wanted hr hg'
  have hevx : ev S' x = some (.func (.func g) firsts caps) := by rw [ev_like hT (by rw [hop]; simp [Op.operands, Call.operands])]; exact hf
  have hevs : evs S' ars.toList = some vs := by rw [evs_like (fun y hy => ev_like hT (by rw [hop]; simp [Op.operands, Call.operands]; exact .inr (by simpa using hy)))]; exact hargs
  have hpreS' : AllH S' pre := hpreS.like (fun k hk => hH k (List.mem_append_left _ hk))
  have hnew' : ∀ j, m ≤ j → j < m + r → S'.H (σ j) = .fresh := fun j h1 h2 => by
    rw [hH (σ j) (List.mem_append_right _ (List.mem_map.2 ⟨j, by rw [List.mem_range'_1]; omega, rfl⟩))]; exact (hnew j h1 h2).1
  have hfx := ev_rel hr hevx
  obtain ⟨ea1, ea2⟩ := evs_rel hr hevs
  generalize hax : a.eval x = ax at hfx
  cases hfx with
  | func _ _ ys _ ds e1 v1 e2 v2 =>
    -- the machine's step
    unfold wpOp
    simp only [ho, hw, if_true]
    refine .inl ?_
    unfold Oper.wp
    have hex : (execOp a.eval o).run P w = .ok (.enter g ((ys ++ (ars.map a.eval)) ++ ds)) w := by
      unfold callB at hg
      split at hg
      · rename_i fn hfn
        rw [Bool.and_eq_true] at hg
        have n1 : (fn.name == "runtime.NumGoroutine") = false := by simpa using hg.1
        have n2 : fn.body.isNone = false := by cases hb : fn.body with | none => rw [hb] at hg; simp at hg | some _ => rfl
        simp only [execOp, hop, resolve, hax, Deferred.ofValue, Sem.run_bind, Sem.run_pure, Result.andThen_ok, invoke, callFunc, run_program, hfn, n1, n2, Bool.false_eq_true, if_false]
      · cases hg
    rw [hex]
    simp only [Oper.upon]
    -- the callee's eyes
    let ρ0 : Ren := fun j => bif Nat.blt j m then ρ (σ j) else none
    have hρ0 : ∀ j, j < m → ρ0 j = ρ (σ j) := fun j hj => by simp only [ρ0, show Nat.blt j m = true from Nat.ble_eq_true_of_le hj, cond_true]
    have hall : (firsts.toList ++ vs ++ caps.toList).length = ((ys ++ ars.map a.eval) ++ ds).size ∧ ∀ (j : Nat) (u : Value), (firsts.toList ++ vs ++ caps.toList)[j]? = some u → ∃ z, ((ys ++ ars.map a.eval) ++ ds)[j]? = some z ∧ VRel ρ u z := by
      have pw : ∀ (xs zs : Array Value) (e : xs.size = zs.size) (_ : ∀ i (hi : i < xs.size), VRel ρ xs[i] (zs[i]'(e ▸ hi))), ∀ (j : Nat) (u : Value), xs.toList[j]? = some u → ∃ z, zs.toList[j]? = some z ∧ VRel ρ u z := by
        intro xs zs e hv j u hu
        simp only [Array.getElem?_toList] at hu ⊢
        obtain ⟨hj, he⟩ := Array.getElem?_eq_some_iff.1 hu
        exact ⟨zs[j]'(e ▸ hj), Array.getElem?_eq_getElem (e ▸ hj), by rw [← he]; exact hv j hj⟩
      have app : ∀ (l1 l2 m1 m2 : List Value), l1.length = m1.length → (∀ (j : Nat) (u : Value), l1[j]? = some u → ∃ z, m1[j]? = some z ∧ VRel ρ u z) →
          (∀ (j : Nat) (u : Value), l2[j]? = some u → ∃ z, m2[j]? = some z ∧ VRel ρ u z) → ∀ (j : Nat) (u : Value), (l1 ++ l2)[j]? = some u → ∃ z, (m1 ++ m2)[j]? = some z ∧ VRel ρ u z := by
        intro l1 l2 m1 m2 hl h1 h2 j u hu
        rcases Nat.lt_or_ge j l1.length with hlt | hge
        · rw [List.getElem?_append_left hlt] at hu
          rw [List.getElem?_append_left (by omega)]; exact h1 j u hu
        · rw [List.getElem?_append_right hge] at hu
          rw [List.getElem?_append_right (by omega), ← hl]; exact h2 _ u hu
      have ea2' : ∀ (j : Nat) (u : Value), vs[j]? = some u → ∃ z, (ars.map a.eval).toList[j]? = some z ∧ VRel ρ u z := fun j u hu => by simpa using ea2 j u hu
      refine ⟨by simp at ea1 ⊢; omega, fun j u hu => ?_⟩
      have := app (firsts.toList ++ vs) caps.toList ((ys ++ ars.map a.eval).toList) ds.toList (by simp at ea1 ⊢; omega)
        (by rw [Array.toList_append]; exact app firsts.toList vs ys.toList (ars.map a.eval).toList (by simpa using e1) (pw firsts ys e1 v1) ea2') (pw caps ds e2 v2) j u hu
      rw [← Array.getElem?_toList, Array.toList_append]; exact this
    have hcall := ac ρ0 w ((ys ++ ars.map a.eval) ++ ds) (by rw [ha.1]; exact hall.1) (fun j u hu => by
        obtain ⟨hj, _⟩ := List.getElem?_eq_some_iff.1 hu
        have hj' : j < (firsts.toList ++ vs ++ caps.toList).length := by have := ha.1; omega
        obtain ⟨z, h1, h2⟩ := hall.2 j _ (List.getElem?_eq_getElem hj')
        exact ⟨z, h1, (ha.2 j u _ hu (List.getElem?_eq_getElem hj')).into (fun q hq => hρ0 q hq) h2⟩)
      ⟨fun j b0 hj => by
          obtain ⟨b, hm, hb⟩ := hpre.left hj
          obtain ⟨sp, h1, h2⟩ := hr.heap.live (σ j) b (hpreS'.mem hm)
          exact ⟨sp, by rw [hρ0 j (hpm j (List.mem_map.2 ⟨(j, b0), hj, rfl⟩))]; exact h1, hb.into (fun q hq => hρ0 q hq) h2⟩,
        fun j j' b0 b0' sp sp' hne hj hj' ho' nv h1 h2 => by
          obtain ⟨b, hm, hb⟩ := hpre.left hj
          obtain ⟨b', hm', hb'⟩ := hpre.left hj'
          have lj := hpm j (List.mem_map.2 ⟨(j, b0), hj, rfl⟩)
          have lj' := hpm j' (List.mem_map.2 ⟨(j', b0'), hj', rfl⟩)
          rw [hρ0 j lj] at h1
          rw [hρ0 j' lj'] at h2
          exact hr.heap.apart (σ j) (σ j') b b' sp sp' (fun e => hne (hinj j j' (by omega) (by omega) e)) (hpreS'.mem hm) (hpreS'.mem hm') (by rw [hb.own]; exact ho') (fun v => nv (hb'.void.2 v)) h1 h2⟩
      (fun j hj => by
        obtain ⟨x0, hx0, rfl⟩ := List.mem_map.1 (hlow j hj)
        obtain ⟨b, hm, _⟩ := hpre.left (j := x0.1) (b0 := x0.2) hx0
        obtain ⟨sp, h1, _⟩ := hr.heap.live (σ x0.1) b (hpreS'.mem hm)
        exact ⟨sp, by rw [hρ0 _ hj]; exact h1⟩)
      (fun j hj => by simp only [ρ0, show Nat.blt j m = false from by cases hb : Nat.blt j m with | false => rfl | true => have := blt_lt hb; omega, cond_false])
    refine Calls.mono hcall ?_
    rintro e w' ⟨v', ρ1, rfl, hv', hsame, hpost', hnb, hfr⟩
    -- the caller's names behind the call
    let inv : Nat → Option Nat := fun k => (List.range' m r).find? (fun j => Nat.beq k (σ j))
    let ρ2 : Ren := fun k => match inv k with
      | some j => ρ1 j
      | none => ρ k
    have hinv : ∀ k j, inv k = some j → k = σ j ∧ m ≤ j ∧ j < m + r := fun k j h => by
      have h1 := List.find?_some h
      have h2 := List.mem_of_find?_eq_some h
      rw [List.mem_range'_1] at h2
      exact ⟨Nat.eq_of_beq_eq_true h1, h2.1, h2.2⟩
    have hinv2 : ∀ j, m ≤ j → j < m + r → inv (σ j) = some j := fun j h1 h2 => by
      cases hf : inv (σ j) with
      | none =>
        have := List.find?_eq_none.1 hf j (by rw [List.mem_range'_1]; omega)
        simp at this
      | some j' =>
        obtain ⟨e1, e2, e3⟩ := hinv _ _ hf
        rw [hinj j j' h2 e3 e1]
    have hsame2 : ∀ k, k ∉ (List.range' m r).map σ → ρ2 k = ρ k := fun k hk => by
      have : inv k = none := List.find?_eq_none.2 (fun j hj hb => hk (List.mem_map.2 ⟨j, hj, (Nat.eq_of_beq_eq_true hb).symm⟩))
      simp only [ρ2, this]
    have hlow2 : ∀ j, j < m → ρ2 (σ j) = ρ (σ j) := fun j hj => hsame2 _ (fun hm => by
      obtain ⟨j', h1, h2⟩ := List.mem_map.1 hm
      rw [List.mem_range'_1] at h1
      have := hinj j' j (by omega) (by omega) h2
      omega)
    have hρ1 : ∀ j, j < m + r → ρ1 j = ρ2 (σ j) := fun j hj => by
      rcases Nat.lt_or_ge j m with hlt | hge
      · rw [hsame j hlt, hρ0 j hlt, hlow2 j hlt]
      · simp only [ρ2, hinv2 j hge hj]
    have hkeyPost : ∀ k, k ∈ post.map (·.1) → ∃ j, k = σ j ∧ j ∈ post0.map (·.1) := fun k hk => by
      obtain ⟨x1, hx1, rfl⟩ := List.mem_map.1 hk
      obtain ⟨j, b0, h1, h2, _⟩ := hpost.right (k := x1.1) (b := x1.2) hx1
      exact ⟨j, h1, List.mem_map.2 ⟨(j, b0), h2, rfl⟩⟩
    have hOwn : ∀ b, OwnSet ρ0 pre0 b → OwnSet ρ pre b := by
      rintro b ⟨j, b0, sp, hm, ho', h1, h2⟩
      obtain ⟨b', hm', hb'⟩ := hpre.left hm
      exact ⟨σ j, b', sp, hm', by rw [hb'.own]; exact ho', by rw [← hρ0 j (hpm j (List.mem_map.2 ⟨(j, b0), hm, rfl⟩))]; exact h1, h2⟩
    have hOwn' : ∀ b, OwnSet ρ pre b → OwnSet ρ0 pre0 b := by
      rintro b ⟨k, b', sp, hm, ho', h1, h2⟩
      obtain ⟨j, b0, rfl, hm', hb'⟩ := hpre.right hm
      exact ⟨j, b0, sp, hm', by rw [← hb'.own]; exact ho', by rw [hρ0 j (hpm j (List.mem_map.2 ⟨(j, b0), hm', rfl⟩))]; exact h1, h2⟩
    obtain ⟨_, hrel⟩ := Rel.call (ρ' := ρ2) (w' := w') hr (pre := pre) (post := post) (new := (List.range' m r).map σ) hpreS'
      (fun k hk => by
        obtain ⟨j, h1, rfl⟩ := List.mem_map.1 hk
        rw [List.mem_range'_1] at h1
        refine ⟨hnew' j h1.1 h1.2, ?_⟩
        obtain ⟨x0, hx0, he⟩ := List.mem_map.1 (hnew j h1.1 h1.2).2
        obtain ⟨b, hm, _⟩ := hpost.left (j := x0.1) (b0 := x0.2) hx0
        rw [← he]
        exact List.mem_map.2 ⟨_, hm, rfl⟩)
      (fun k hk => by
        obtain ⟨j, rfl, hj⟩ := hkeyPost k hk
        obtain ⟨h1, h2⟩ := hpk j hj
        rcases Nat.lt_or_ge j m with hlt | hge
        · exact .inr (h2 hlt)
        · exact .inl (List.mem_map.2 ⟨j, by rw [List.mem_range'_1]; omega, rfl⟩))
      hsame2
      ⟨fun k b hk => by
          obtain ⟨j, b0, rfl, hm, hb⟩ := hpost.right hk
          obtain ⟨sp, h1, h2⟩ := hpost'.live j b0 hm
          have hj := (hpk j (List.mem_map.2 ⟨(j, b0), hm, rfl⟩)).1
          exact ⟨sp, by rw [← hρ1 j hj]; exact h1, hb.out (fun q hq => hρ1 q hq) h2⟩,
        fun k k' b b' sp sp' hne hk hk' ho' nv h1 h2 => by
          obtain ⟨j, b0, rfl, hm, hb⟩ := hpost.right hk
          obtain ⟨j', b0', rfl, hm', hb'⟩ := hpost.right hk'
          have hj := (hpk j (List.mem_map.2 ⟨(j, b0), hm, rfl⟩)).1
          have hj' := (hpk j' (List.mem_map.2 ⟨(j', b0'), hm', rfl⟩)).1
          rw [← hρ1 j hj] at h1
          rw [← hρ1 j' hj'] at h2
          exact hpost'.apart j j' b0 b0' sp sp' (fun e => hne (by rw [e])) hm hm' (by rw [← hb.own]; exact ho') (fun v => nv (hb'.void.1 v)) h1 h2⟩
      (fun k sp hk hsp => by
        obtain ⟨j, h1, rfl⟩ := List.mem_map.1 hk
        rw [List.mem_range'_1] at h1
        obtain ⟨x0, hx0, he⟩ := List.mem_map.1 (hnew j h1.1 h1.2).2
        subst he
        rw [← hρ1 x0.1 h1.2] at hsp
        exact (hnb x0.1 x0.2 sp h1.1 hx0 hsp).imp id (hOwn _))
      ⟨hfr.os, hfr.tape, hfr.output, hfr.size, fun b hb hW => hfr.block b hb (fun h => hW (hOwn b h))⟩
    exact hK ρ2 _ _ (Rel.put hrel hd (hv.out (fun q hq => hρ1 q hq) hv'))

/-- A call that hands no block over and gets none back. -/
theorem does_call0 {x : Operand} {ars : Array Operand} {ats : Array TypeId} {g : Nat} {vs : List Value} {v : Value}
    (hs : shapeAt ops S i = some (.call ⟨.value x, ars, ats⟩, true)) (hf : ev S x = some (.func (.func g) #[] #[])) (hargs : evs S ars.toList = some vs) (hg : callB P g = true)
    (ac : AC P g 0 vs [] v []) (ha : vs.all flatB = true) (hv : flatB v = true) : Does C P ops i S ⟨[], v, []⟩ := by
  have := does_call (C := C) (P := P) (ops := ops) (i := i) (S := S) (m := 0) (r := 0) (pre := []) (post := []) (v := v) (fun j => j) hs hf hargs hg ac
    (by simp only [List.nil_append, List.append_nil]; exact .flat (fun u hu => only_flat (List.all_eq_true.1 ha u hu))) trivial trivial (fun j hj => by omega) (fun j hj => by simp at hj) (fun i j hi => by omega) (fun j h1 h2 => by omega) trivial
    (fun j hj => by simp at hj) (.flat v (only_flat hv))
  exact this
end

/-! ### 12. The places of a body -/
def bodyOf (fn : Func) : Code := fn.body.getD .skip
def sub : Code → List Bool → Code
  | c, [] => c
  | .seq x y, b :: l => sub (bif b then y else x) l
  | .cond _ x y, b :: l => sub (bif b then y else x) l
  | .block _ x, _ :: l => sub x l
  | .loop x, _ :: l => sub x l
  | c, _ :: _ => c
def regOps : Code → Array Oper
  | .region _ ops _ => ops
  | _ => #[]
end Go.Proofs.Ytigllakcfdoagaa.Am
