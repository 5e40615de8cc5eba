import Derived.Test.YtngmegnaohmapaaDoorAm16
import Derived.SizedLaws
import Derived.Laws.MakeOwn
namespace Go.Proofs.YtngmegnaohmapaaDoor.Am
open Go
set_option linter.unusedVariables false
/-! ### 28. The numbers of blocks, turned -/
def renS : List (Nat × Nat) → Nat → Nat
  | [], k => k
  | (a, b) :: l, k => bif Nat.beq k a then b else renS l k
def RenT (σ : Nat → Nat) (p : Nat → Prop) : List (Nat × Value) → List (Nat × Value) → Prop
  | [], [] => True
  | (t, v) :: l, (t0, v0) :: l0 => t = t0 ∧ RenV σ p v v0 ∧ RenT σ p l l0
  | _, _ => False
theorem RenT.left {σ : Nat → Nat} {p : Nat → Prop} {l l0 : List (Nat × Value)} (h : RenT σ p l l0) {t : Nat} {v : Value} (hm : (t, v) ∈ l) : ∃ v0, (t, v0) ∈ l0 ∧ RenV σ p v v0 := by
  induction l generalizing l0 with
  | nil => cases hm
  | cons x l ih =>
    cases l0 with
    | nil => exact h.elim
    | cons y l0 =>
      obtain ⟨h1, h2, h3⟩ := h
      cases hm with
      | head => obtain ⟨t0, v0⟩ := y; have h1 : t = t0 := h1; subst h1; exact ⟨v0, List.mem_cons_self, h2⟩
      | tail _ hm => obtain ⟨v0, a, b⟩ := ih h3 hm; exact ⟨v0, List.mem_cons_of_mem _ a, b⟩
def renChk (m : Nat) (ren : List (Nat × Nat)) (ks : List Nat) : Bool :=
  ren.all (fun x => Nat.ble m x.1) && ks.all (fun i => (Nat.blt i m || Nat.ble m (renS ren i)) && ks.all (fun j => Nat.beq i j || !Nat.beq (renS ren i) (renS ren j)))
theorem renS_lt {m : Nat} {ren : List (Nat × Nat)} (h : ren.all (fun x => Nat.ble m x.1) = true) {k : Nat} (hk : k < m) : renS ren k = k := by
  induction ren with
  | nil => rfl
  | cons x l ih =>
    obtain ⟨a, b⟩ := x
    rw [List.all_cons, Bool.and_eq_true] at h
    have h1 := Nat.le_of_ble_eq_true h.1
    have : Nat.beq k a = false := by
      cases hb : Nat.beq k a with
      | false => rfl
      | true => have := Nat.eq_of_beq_eq_true hb; have h1 : m ≤ a := h1; omega
    simp only [renS, this, cond_false]
    exact ih h.2
theorem weak_ren {C : Ctx} {S : St} {T T0 : List (Nat × Value)} {L L0 : List (Nat × Blk)} (ren : List (Nat × Nat)) (hT : AllT S T0) (hL : AllH S L0) (rT : RenT (renS ren) (keyB C.m L) T T0) (rL : RenH (renS ren) (keyB C.m L) L L0)
    (hc : renChk C.m ren (L.map (·.1)) = true) : Weak C S (mkSt C.m T L) := by
  unfold renChk at hc
  rw [Bool.and_eq_true] at hc
  obtain ⟨c1, c2⟩ := hc
  have sl : ∀ k, k < C.m → renS ren k = k := fun k hk => renS_lt c1 hk
  have mem : ∀ k, keyB C.m L k → k < C.m ∨ k ∈ L.map (·.1) := fun k hk => by
    unfold keyB at hk
    rw [Bool.or_eq_true] at hk
    exact hk.imp blt_lt any_beq.1
  have inj : ∀ i j, i ∈ L.map (·.1) → j ∈ L.map (·.1) → renS ren i = renS ren j → i = j := fun i j hi hj e => by
    have h := List.all_eq_true.1 c2 i hi
    rw [Bool.and_eq_true] at h
    have h := List.all_eq_true.1 h.2 j hj
    rw [Bool.or_eq_true] at h
    rcases h with h | h
    · exact Nat.eq_of_beq_eq_true h
    · rw [e] at h; simp at h
  intro ρ a w h
  have hdf : ∀ k b, base C.m k ≠ .live b := fun k b e => by unfold base at e; cases hh : Nat.blt k C.m <;> rw [hh] at e <;> cases e
  let ρ' : Ren := fun k => bif (Nat.blt k C.m || (L.map (·.1)).any (Nat.beq k)) then ρ (renS ren k) else none
  have hp : ∀ k, keyB C.m L k → ρ' k = ρ (renS ren k) := fun k hk => by
    have hk' : (Nat.blt k C.m || (L.map (·.1)).any (Nat.beq k)) = true := hk
    simp only [ρ', hk', cond_true]
  have hlive : ∀ k b, ofH (base C.m k) L k = .live b → ∃ b0, S.H (renS ren k) = .live b0 ∧ RenB (renS ren) (keyB C.m L) b b0 ∧ k ∈ L.map (·.1) ∧ keyB C.m L k := fun k b hk => by
    have hm := ofH_live (hdf k) hk
    obtain ⟨b0, m0, r0⟩ := rL.left hm
    have hmem : k ∈ L.map (·.1) := List.mem_map.2 ⟨(k, b), hm, rfl⟩
    exact ⟨b0, hL.mem m0, r0, hmem, by unfold keyB; rw [any_beq.2 hmem]; simp⟩
  refine ⟨ρ', h.size, h.defers, fun t v hv => ?_, ⟨fun k hk => ?_, fun k b hk => ?_, ?_⟩, h.frame, fun k b sp hk ho hsp => ?_, fun k hk => ?_⟩
  · obtain ⟨v0, m0, r0⟩ := rT.left (ofT_some hv)
    obtain ⟨v', h1, h2⟩ := h.temps t v0 (hT.mem m0)
    exact ⟨v', h1, r0.into hp h2⟩
  · have hk2 : ofH (base C.m k) L k = .fresh := hk
    have hn : ¬ (Nat.blt k C.m || (L.map (·.1)).any (Nat.beq k)) = true := fun hb => by
      by_cases hm : k ∈ L.map (·.1)
      · obtain ⟨b, hb'⟩ := ofH_key (d := base C.m k) hm
        rw [hb'] at hk2; cases hk2
      · rw [ofH_nokey hm] at hk2
        rw [Bool.or_eq_true] at hb
        rcases hb with hb | hb
        · unfold base at hk2; rw [hb] at hk2; cases hk2
        · exact hm (any_beq.1 hb)
    simp only [ρ', hn, cond_false]
  · obtain ⟨b0, h1, r0, hm, h3⟩ := hlive k b hk
    obtain ⟨sp, e1, e2⟩ := h.heap.live _ b0 h1
    exact ⟨sp, by rw [hp k h3]; exact e1, r0.into hp e2⟩
  · intro k1 k2 b1 b2 sp1 sp2 hne h1 h2 ho nv e1 e2
    obtain ⟨c1, a1, r1, m1, q1⟩ := hlive k1 b1 h1
    obtain ⟨c2, a2, r2, m2, q2⟩ := hlive k2 b2 h2
    rw [hp k1 q1] at e1
    rw [hp k2 q2] at e2
    exact h.heap.apart _ _ c1 c2 sp1 sp2 (fun e => hne (inj _ _ m1 m2 e)) a1 a2 (by rw [r1.own]; exact ho) (fun v => nv (r2.void.2 v)) e1 e2
  · obtain ⟨b0, a0, r0, _, q⟩ := hlive k b hk
    rw [hp k q] at hsp
    exact h.owned _ b0 sp a0 (by rw [r0.own]; exact ho) hsp
  · obtain ⟨sp, p1, p2⟩ := h.pin k hk
    refine ⟨sp, p1, ?_⟩
    rw [hp k (by unfold keyB; rw [show Nat.blt k C.m = true from Nat.ble_eq_true_of_le hk]; rfl), sl k hk]; exact p2
theorem al_r {C : Ctx} {P : Program} {Q : Exit → St → Prop} {c : Code} {S : St} (ren : List (Nat × Nat)) (T0 : List (Nat × Value)) (L0 : List (Nat × Blk)) (T : List (Nat × Value)) (L : List (Nat × Blk)) (h : AL C P c (mkSt C.m T L) Q)
    (rT : RenT (renS ren) (keyB C.m L) T T0) (rL : RenH (renS ren) (keyB C.m L) L L0) (hc : renChk C.m ren (L.map (·.1)) = true := by kernel_rfl) (hT : T0.map (fun x => S.T x.1) = T0.map (fun x => some x.2) := by kernel_rfl)
    (hL : L0.map (fun x => S.H x.1) = L0.map (fun x => .live x.2) := by kernel_rfl) : AL C P c S Q := al_weak (weak_ren ren (allT_of hT) (allH_of hL) rT rL hc) h
theorem aw_r {C : Ctx} {P : Program} {Q : Exit → St → Prop} {c : Code} {S : St} (ren : List (Nat × Nat)) (T0 : List (Nat × Value)) (L0 : List (Nat × Blk)) (T : List (Nat × Value)) (L : List (Nat × Blk)) (h : AW C P c (mkSt C.m T L) Q)
    (rT : RenT (renS ren) (keyB C.m L) T T0) (rL : RenH (renS ren) (keyB C.m L) L L0) (hc : renChk C.m ren (L.map (·.1)) = true := by kernel_rfl) (hT : T0.map (fun x => S.T x.1) = T0.map (fun x => some x.2) := by kernel_rfl)
    (hL : L0.map (fun x => S.H x.1) = L0.map (fun x => .live x.2) := by kernel_rfl) : AW C P c S Q := aw_weak (weak_ren ren (allT_of hT) (allH_of hL) rT rL hc) h
/-! ### 29. append to a block whose cells are told by a list -/
section
variable {C : Ctx} {P : Program} {ops : Array Oper} {S : St} {i : Nat}
theorem does_apx {x y : Operand} {t e : TypeId} {inf : TypeInfo} {zv : Value} {k n c k2 m c2 k' : Nat} {b b2 : Blk} (l : List Value) (hs : appAt P ops S i = some (x, y, t, e, inf, zv))
    (hx : ev S x = some (.slice (some ⟨k, 0, none⟩) n c)) (hy : ev S y = some (.slice (some ⟨k2, 0, none⟩) m c2)) (hH : S.H k = .live b) (hH2 : S.H k2 = .live b2) (hK : S.H k' = .fresh)
    (hz : (b.own && Nat.beq b.elem e && Nat.beq b.step inf.size && plainAll b2.cells && Nat.beq (m * inf.size) b2.cells.length && Nat.ble 1 m) = true) (hn : b.cells.length = n * inf.size)
    (hB : (n + m) * inf.bytes ≤ 140737488355328) (hM : n + m ≤ 4611686018427387904) (hl : b.cells ++ b2.cells = l) :
    Does C P ops i S ⟨[k, k2, k'], .slice (some ⟨k', 0, none⟩) (n + m) 0, [(k, .gone), (k', .live ⟨l, e, true, inf.size⟩)]⟩ := by
  simp only [Bool.and_eq_true] at hz
  obtain ⟨⟨⟨⟨⟨z1, z2⟩, z3⟩, z4⟩, z5⟩, z6⟩ := hz
  have q := Nat.eq_of_beq_eq_true z5
  have e2 : (b2.cells.drop 0).take (m * inf.size) = b2.cells := by rw [List.drop_zero, q, List.take_length]
  have e1 : (b.cells.drop 0).take (n * inf.size) = b.cells := by rw [List.drop_zero, ← hn, List.take_length]
  have h := does_append (C := C) (P := P) (ops := ops) (S := S) (i := i) hs hx hy hH hH2 hK (by
    simp only [Bool.and_eq_true, e2]
    refine ⟨⟨⟨⟨⟨⟨z1, z2⟩, z3⟩, z4⟩, Nat.ble_eq_true_of_le (by omega)⟩, Nat.ble_eq_true_of_le (by omega)⟩, z6⟩) hB hM
  rw [e1, e2, hl] at h
  exact h
end
section
variable {C : Ctx} {P : Program} {ops : Array Oper} {S : St} {i : Nat}
/-- what an append looks at -/
def apyAt (P : Program) (ops : Array Oper) (S : St) (i : Nat) : Option (Nat × Nat × Nat × Option Value × Option Value) := match appAt P ops S i with
  | some (x, y, _, e, inf, _) => some (e, inf.size, inf.bytes, ev S x, ev S y)
  | none => none
theorem does_apy (k' e z bt k n k2 m : Nat) (b b2 : Blk) (l : List Value) (h1 : apyAt P ops S i = some (e, z, bt, some (.slice (some ⟨k, 0, none⟩) n 0), some (.slice (some ⟨k2, 0, none⟩) m 0)))
    (hH : S.H k = .live b) (hH2 : S.H k2 = .live b2) (hK : S.H k' = .fresh)
    (hz : (b.own && Nat.beq b.elem e && Nat.beq b.step z && plainAll b2.cells && Nat.beq (m * z) b2.cells.length && Nat.ble 1 m) = true) (hn : b.cells.length = n * z)
    (hB : (n + m) * bt ≤ 140737488355328) (hM : n + m ≤ 4611686018427387904) (hl : b.cells ++ b2.cells = l) :
    Does C P ops i S ⟨[k, k2, k'], .slice (some ⟨k', 0, none⟩) (n + m) 0, [(k, .gone), (k', .live ⟨l, e, true, z⟩)]⟩ := by
  unfold apyAt at h1
  split at h1
  · rename_i x y t e' inf zv hs
    simp only [Option.some.injEq, Prod.mk.injEq] at h1
    obtain ⟨rfl, rfl, rfl, hx, hy⟩ := h1
    exact does_apx l hs hx hy hH hH2 hK hz hn hB hM hl
  · cases h1
end
theorem range_snoc {f : Nat → List Value} {n : Nat} {l : List Value} (h : f n = l) : (List.range n).flatMap f ++ l = (List.range (n + 1)).flatMap f := by
  rw [List.range_succ, List.flatMap_append, List.flatMap_cons, List.flatMap_nil, List.append_nil, h]
theorem range_len {f : Nat → List Value} {z : Nat} (h : ∀ i, (f i).length = z) (n : Nat) : ((List.range n).flatMap f).length = n * z := by
  induction n with
  | zero => simp
  | succ n ih => rw [← range_snoc rfl, List.length_append, ih, h, Nat.succ_mul]
theorem range_flats {f : Nat → List Value} (h : ∀ i, (f i).all flatB = true) (n : Nat) : ((List.range n).flatMap f).all flatB = true := by
  rw [List.all_eq_true]
  intro v hv
  obtain ⟨i, _, hi⟩ := List.mem_flatMap.1 hv
  exact List.all_eq_true.1 (h i) v hi
theorem range_at {f : Nat → List Value} {z : Nat} (h : ∀ i, (f i).length = z) {n j : Nat} (hj : j < n) : (((List.range n).flatMap f).drop (z * j)).take z = f j := by
  induction n with
  | zero => omega
  | succ n ih =>
    rw [← range_snoc rfl, List.drop_append, List.take_append]
    have hl := range_len h n
    rcases Nat.lt_or_ge j n with q | q
    · have hle : z * (j + 1) ≤ n * z := by rw [Nat.mul_comm n z]; exact Nat.mul_le_mul_left z q
      rw [Nat.mul_succ] at hle
      have h0 : (((List.range n).flatMap f).drop (z * j)).length ≥ z := by rw [List.length_drop, hl]; omega
      rw [show z - (((List.range n).flatMap f).drop (z * j)).length = 0 by omega, List.take_zero, List.append_nil]
      exact ih q
    · have e : j = n := by omega
      subst e
      rw [List.drop_eq_nil_of_le (by rw [hl, Nat.mul_comm]; exact Nat.le_refl _), List.take_nil, List.nil_append, hl, Nat.mul_comm z, Nat.sub_self, List.drop_zero, List.length_nil, Nat.sub_zero, ← h j, List.take_length]
theorem ldV_range {P : Program} {t : TypeId} {f : Nat → List Value} {z off n j : Nat} (hf : ∀ i, (f i).length = z) (ha : aggB P t = some true) (hi : (P.info? t).map (·.size) = some z) (ho : off = z * j) (h : j < n) :
    ldV P t ((List.range n).flatMap f) off = some (.agg (f j).toArray) := by
  unfold ldV
  obtain ⟨inf, hinf, hsz⟩ := Option.map_eq_some_iff.1 hi
  rw [hinf]
  simp only [ha, hsz]
  have hle : z * (j + 1) ≤ n * z := by rw [Nat.mul_comm n z]; exact Nat.mul_le_mul_left z h
  rw [Nat.mul_succ] at hle
  have hb : Nat.ble (off + z) ((List.range n).flatMap f).length = true := Nat.ble_eq_true_of_le (by rw [range_len hf]; omega)
  rw [hb, ho, range_at hf h]
  rfl
end Go.Proofs.YtngmegnaohmapaaDoor.Am

namespace Go.Proofs.YtngmegnaohmapaaDoor.Am
open Go Go.RowKit
set_option linter.unusedVariables false
set_option linter.unusedSimpArgs false
/-! ### 30. append of a list that may be empty -/
section
variable {C : Ctx} {P : Program} {ops : Array Oper} {S : St} {i : Nat}
theorem does_append0 {x y : Operand} {t e : TypeId} {inf : TypeInfo} {zv : Value} {k n c k2 off2 c2 k' : Nat} {b : Blk} (hs : appAt P ops S i = some (x, y, t, e, inf, zv))
    (hx : ev S x = some (.slice (some ⟨k, 0, none⟩) n c)) (hy : ev S y = some (.slice (some ⟨k2, off2, none⟩) 0 c2)) (hH : S.H k = .live b) (hK : S.H k' = .fresh) (hn1 : 1 ≤ n)
    (hz : (b.own && Nat.beq b.elem e && Nat.beq b.step inf.size) = true) :
    Does C P ops i S ⟨[k, k2, k'], .slice (some ⟨k', 0, none⟩) n 0, [(k, .gone), (k', .live ⟨b.cells, e, true, inf.size⟩)]⟩ := by
  obtain ⟨hsh, hu, hi, hzv, hzs⟩ := appAt_spec hs
  refine .of_run hsh fun o ho S' ρ a w hT hH' hr => ?_
  simp only [Bool.and_eq_true] at hz
  obtain ⟨⟨b1, b2'⟩, b3⟩ := hz
  have eel := Nat.eq_of_beq_eq_true b2'
  have est := Nat.eq_of_beq_eq_true b3
  have hrx := ev_rel hr (by rw [hT x (by simp [Op.operands, Call.operands])]; exact hx)
  have hry := ev_rel hr (by rw [hT y (by simp [Op.operands, Call.operands])]; exact hy)
  generalize hax : a.eval x = ax at hrx
  generalize hay : a.eval y = ay at hry
  have hHk : S'.H k = .live b := by rw [hH' k (by simp)]; exact hH
  have hHf : S'.H k' = .fresh := by rw [hH' k' (by simp)]; exact hK
  cases hrx with
  | slice0 => omega
  | slice _ _ _ _ cap sp hk hc1 hs1 =>
    obtain ⟨q1, e1, e2⟩ := hr.heap.live k b hHk
    rw [hk] at e1; cases e1
    have e2' := e2
    rw [BlkOk.own b1] at e2'
    obtain ⟨st, cur, hg, hcs, hcl, hcc⟩ := e2'
    obtain ⟨hle, hm⟩ := Rel.move hr (k := k) (k' := k') (d := 0) (b := b) (b' := ⟨b.cells, e, true, inf.size⟩) hHk b1 hk hHf (by omega) rfl eel.symm est.symm (by show b.cells.length ≤ _; omega) (fun j u hu => by rw [Nat.zero_add]; exact hu)
    have key : ∀ (A : Option Addr) (c : Nat), (Builtin.append_ #[t, t] o.type #[.slice (some ⟨sp.block, sp.off + 0, none⟩) n cap, .slice A 0 c]).run P w = .ok (.slice (some ⟨sp.block, sp.off + 0, none⟩) n cap) w := by
      intro A c
      have hf : (Builtin.firstCells inf.size 0 (.slice A 0 c)).run P w = .ok #[] w := by
        cases A with
        | none => exact run_firstCells_none _ _ _ _ _
        | some A => exact run_firstCells_some (P := P) w inf.size 0 A 0 c [] (by simp) (by simp)
      simp [Builtin.append_, run_underlying hu, sizeOf, typeInfo, hi, Builtin.lenOf, hc1, hf, storeCells]
    have hval : VRel (upd ρ k' (some ⟨sp.block, sp.off + 0, sp.size - 0, sp.step⟩)) (.slice (some ⟨k', 0, none⟩) n 0) (.slice (some ⟨sp.block, sp.off + 0, none⟩) n cap) :=
      .slice k' 0 n 0 cap ⟨sp.block, sp.off + 0, sp.size - 0, sp.step⟩ (upd_self _ _ _) hc1 (by show 0 + cap * sp.step ≤ sp.size - 0; omega)
    cases hry with
    | slice0 _ _ _ A =>
      refine ⟨_, w, _, .slice (some ⟨sp.block, sp.off + 0, none⟩) n cap, ?_, .inl rfl, hval, hm⟩
      have ev1 : (#[x, y] : Array Operand).map a.eval = #[.slice (some ⟨sp.block, sp.off + 0, none⟩) n cap, .slice A 0 0] := by simp [hax, hay]
      simp only [execOp, ho, resolve, ev1, Sem.run_bind, Sem.run_pure, Result.andThen_ok, invoke, builtin, key]
    | slice _ _ _ _ cap2 sp2 hk2 hc2 hs2 =>
      refine ⟨_, w, _, .slice (some ⟨sp.block, sp.off + 0, none⟩) n cap, ?_, .inl rfl, hval, hm⟩
      have ev1 : (#[x, y] : Array Operand).map a.eval = #[.slice (some ⟨sp.block, sp.off + 0, none⟩) n cap, .slice (some ⟨sp2.block, sp2.off + off2, none⟩) 0 cap2] := by simp [hax, hay]
      simp only [execOp, ho, resolve, ev1, Sem.run_bind, Sem.run_pure, Result.andThen_ok, invoke, builtin, key]
theorem does_apl (N k' e z bt k n k2 m : Nat) (b b2 : Blk) (l : List Value) (h1 : apyAt P ops S i = some (e, z, bt, some (.slice (some ⟨k, 0, none⟩) n 0), some (.slice (some ⟨k2, 0, none⟩) m 0)))
    (hH : S.H k = .live b) (hH2 : S.H k2 = .live b2) (hK : S.H k' = .fresh) (hz : (b.own && Nat.beq b.elem e && Nat.beq b.step z && Nat.beq b.cells.length (n * z) && Nat.ble 1 n) = true) (hp : plainAll b2.cells = true) (hm : b2.cells.length = m * z)
    (hB : (n + m) * bt ≤ 140737488355328) (hM : n + m ≤ 4611686018427387904) (hl : b.cells ++ b2.cells = l) (hN : n + m = N) :
    Does C P ops i S ⟨[k, k2, k'], .slice (some ⟨k', 0, none⟩) N 0, [(k, .gone), (k', .live ⟨l, e, true, z⟩)]⟩ := by
  subst hN
  unfold apyAt at h1
  split at h1
  · rename_i x y t e' inf zv hs
    simp only [Option.some.injEq, Prod.mk.injEq] at h1
    obtain ⟨rfl, rfl, rfl, hx, hy⟩ := h1
    simp only [Bool.and_eq_true] at hz
    obtain ⟨⟨⟨⟨z1, z2⟩, z3⟩, z4⟩, z5⟩ := hz
    have q := Nat.eq_of_beq_eq_true z4
    rcases Nat.eq_zero_or_pos m with rfl | hpos
    · have e0 : b2.cells = [] := List.length_eq_zero_iff.1 (by rw [hm, Nat.zero_mul])
      rw [e0, List.append_nil] at hl
      subst hl
      exact does_append0 hs hx hy hH hK (Nat.le_of_ble_eq_true z5) (by simp only [Bool.and_eq_true]; exact ⟨⟨z1, z2⟩, z3⟩)
    · have e2 : (b2.cells.drop 0).take (m * inf.size) = b2.cells := by rw [List.drop_zero, ← hm, List.take_length]
      have e1 : (b.cells.drop 0).take (n * inf.size) = b.cells := by rw [List.drop_zero, ← q, List.take_length]
      have h := does_append (C := C) (P := P) (ops := ops) (S := S) (i := i) hs hx hy hH hH2 hK (by
        simp only [Bool.and_eq_true, e2]
        exact ⟨⟨⟨⟨⟨⟨z1, z2⟩, z3⟩, hp⟩, Nat.ble_eq_true_of_le (by omega)⟩, Nat.ble_eq_true_of_le (by omega)⟩, Nat.ble_eq_true_of_le hpos⟩) hB hM
      rw [e1, e2, hl] at h
      exact h
  · cases h1
end
/-! ### 31. How long a slice of the caller's may be -/
theorem len_of_rel {ρ : Ren} {k n c l cc : Nat} {a : Option Addr} (h : VRel ρ (.slice (some ⟨k, 0, none⟩) n c) (.slice a l cc)) : n ≤ l := by
  cases h with
  | slice => exact Nat.le_refl _
  | slice0 => exact Nat.zero_le _
theorem rows_room {H : Type} {enc : TypeId × Value → H} {P : Program} {t e : TypeId} {w : World} {v : Value} {d : DataW H} {p : List MemPlace} {len j bt : Nat} {sp : Spot} {b : Blk} {ts : List TypeId} {ds : List (DataW H)}
    (ht : P.underlying t = some (.slice e)) (h : DataW.Trod enc P w 0 (fun _ => true) true t v d p) (hv : ∃ a l c, v = .slice a l c)
    (hs : ∀ (ρ : Ren) (k : Nat), ρ k = some sp → VRel ρ (.slice (some ⟨k, 0, none⟩) len 0) v ∧ BlkOk ρ w sp b)
    (hsz : (DataW.weightsEach P ts ds).all (· ≤ reachBytes) = true) (htj : ts[j]? = some t) (hdj : ds[j]? = some d) (hb : P.bytesOf e = bt) : len * bt ≤ 140737488351232 := by
  obtain ⟨a0, l0, c0, rfl⟩ := hv
  have hr := len_of_rel (hs (fun _ => some sp) 0 rfl).1
  obtain ⟨fuel, hf⟩ := h
  rcases Go.Deep.open_slice ht hf with ⟨hcs, hx⟩ | ⟨a, len', cap, m, n', D, Pl, hcs, _, hlen, hm, hmm, hx, hi⟩
  · simp [Value.cells] at hcs
    obtain ⟨rfl, rfl, rfl⟩ := hcs
    rw [show len = 0 by omega]; omega
  · simp [Value.cells] at hcs
    obtain ⟨rfl, rfl, rfl⟩ := hcs
    simp only [Prod.mk.injEq] at hx
    obtain ⟨rfl, _⟩ := hx
    have h3 := sized_slice hsz htj hdj ht
    rw [hb] at h3
    simp only [List.length_map, List.length_range] at h3
    have h4 : len * bt ≤ (l0 + (m - l0)) * bt := Nat.mul_le_mul_right _ (by omega)
    have : reachBytes = 140737488351232 := by decide
    omega
theorem plain_map (xs : List Int) : plainAll (xs.map i64v) = true := by
  unfold plainAll
  rw [List.all_eq_true]
  intro v hv
  obtain ⟨x, _, rfl⟩ := List.mem_map.1 hv
  rfl
end Go.Proofs.YtngmegnaohmapaaDoor.Am

namespace Go.Proofs.YtngmegnaohmapaaDoor.Am
open Go
set_option linter.unusedVariables false
set_option linter.unusedSimpArgs false
/-! ### 32. make of a slice -/
section
variable {C : Ctx} {P : Program} {ops : Array Oper} {S : St} {i : Nat}
def mkAt (P : Program) (ops : Array Oper) (S : St) (i : Nat) : Option (TypeId × Nat × Nat × Value × Option Value × Option Value) := match shapeAt ops S i with
  | some (.makeSlice t x y, true) => match sliceElem P t with
    | some e => match P.info? e with
      | some inf => match inf.zero with
        | some z => some (e, inf.size, inf.bytes, z, ev S x, ev S y)
        | none => none
      | none => none
    | none => none
  | _ => none
theorem does_mk (k e z bt : Nat) (n c : Nat) (zv : Value) (cells : List Value) {kl kc : IntKind} {n' c' : Int} (h1 : mkAt P ops S i = some (e, z, bt, zv, some (.int kl n'), some (.int kc c'))) (hk : S.H k = .fresh)
    (hf : cells.all flatB = true) (hc : (madeCells zv.cells (n * z)).toList = cells) (hn : n' = (n : Int)) (hc' : c' = (c : Int)) (hnc : n ≤ c) (hB : bt * c ≤ 140737488355328) (hM : c ≤ 4611686018427387904) :
    Does C P ops i S ⟨[k], .slice (some ⟨k, 0, none⟩) n 0, [(k, .live ⟨cells, e, true, z⟩)]⟩ := by
  subst hn hc'
  unfold mkAt at h1
  split at h1
  · rename_i t x y hs
    split at h1
    · rename_i e' he
      split at h1
      · rename_i inf hi
        split at h1
        · rename_i z' hz
          simp only [Option.some.injEq, Prod.mk.injEq] at h1
          obtain ⟨rfl, rfl, rfl, rfl, hx, hy⟩ := h1
          refine .of_run hs fun o ho S' ρ a w hT hH' hr => ?_
          have hu : P.underlying t = some (.slice e') := sliceElem_spec he
          have hrx := ev_rel hr (by rw [hT x (by simp [Op.operands])]; exact hx)
          have hry := ev_rel hr (by rw [hT y (by simp [Op.operands])]; exact hy)
          generalize hax : a.eval x = ax at hrx
          generalize hay : a.eval y = ay at hry
          cases hrx
          cases hry
          have hB2 : (inf.bytes : Int) * (c : Int) ≤ 281474976710656 := by
            rw [← Int.natCast_mul]; omega
          have hrun := run_make (P := P) w t e' inf z' hu hi hz kl kc (n : Int) (c : Int) (by omega) (by omega) hB2 (by omega)
          rw [Int.toNat_natCast, Int.toNat_natCast] at hrun
          have hle : n * inf.size ≤ c * inf.size := Nat.mul_le_mul_right _ hnc
          subst hc
          obtain ⟨hfr, hrel⟩ := Rel.new hr (by rw [hH' k (by simp)]; exact hk) (cells := (madeCells z'.cells (n * inf.size)).toList) (c := madeCells z'.cells (c * inf.size)) (e := e') (st := inf.size) (by rw [Array.length_toList, size_madeCells, size_madeCells]; exact hle)
            (fun j u hu => by
              have hj := (List.getElem?_eq_some_iff.1 hu).1
              rw [Array.length_toList, size_madeCells] at hj
              have hfl := only_flat (p := fun _ => False) (List.all_eq_true.1 hf u (List.mem_of_getElem? hu))
              refine ⟨u, ?_, .of_only (only_flat (List.all_eq_true.1 hf u (List.mem_of_getElem? hu)))⟩
              rw [Array.getElem?_toList] at hu
              unfold madeCells at hu ⊢
              rw [Array.getElem?_map, Array.getElem?_range] at hu ⊢
              rw [if_pos hj] at hu
              rw [if_pos (by omega)]
              exact hu)
          refine ⟨_, _, _, .slice (some ⟨w.heap.size, 0, none⟩) n c, ?_, .inl rfl, ?_, hrel⟩
          · simp only [execOp, ho, hax, hay, hrun, Sem.run_bind, Sem.run_pure, Result.andThen_ok]
          · refine .slice k 0 n 0 c _ (upd_self _ _ _) hnc ?_
            show 0 + c * inf.size ≤ (madeCells z'.cells (c * inf.size)).size
            rw [size_madeCells]; omega
        · cases h1
      · cases h1
    · cases h1
  · cases h1
end
end Go.Proofs.YtngmegnaohmapaaDoor.Am

