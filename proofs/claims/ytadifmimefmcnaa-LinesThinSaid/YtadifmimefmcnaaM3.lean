import Derived.Test.YtadifmimefmcnaaM2
import Derived.SizedLaws
import Derived.Laws.MakeOwn
import Derived.Lib.AppendZeros
set_option maxHeartbeats 4000000
set_option linter.unusedVariables false
set_option linter.unusedSimpArgs false
namespace Go.Proofs.Ytadifmimefmcnaa.Am
open Go
def renS : List (Nat × Nat) → Nat → Nat
  | [], k => k
  | (a, b) :: l, k => bif Nat.beq k a then b else renS l k
def RenT (σ : Nat → Nat) (p : Nat → Prop) : List (Nat × Value) → List (Nat × Value) → Prop
  | [], [] => True
  | (t, v) :: l, (t0, v0) :: l0 => t = t0 ∧ RenV σ p v v0 ∧ RenT σ p l l0
  | _, _ => False
theorem RenT.left {σ : Nat → Nat} {p : Nat → Prop} {l l0 : List (Nat × Value)} (h : RenT σ p l l0) {t : Nat} {v : Value} (hm : (t, v) ∈ l) : ∃ v0, (t, v0) ∈ l0 ∧ RenV σ p v v0 := by
  induction l generalizing l0 with
  | nil => cases hm
  | cons x l ih =>
    cases l0 with
    | nil => exact h.elim
    | cons y l0 =>
      obtain ⟨h1, h2, h3⟩ := h
      cases hm with
      | head => obtain ⟨t0, v0⟩ := y; have h1 : t = t0 := h1; subst h1; exact ⟨v0, List.mem_cons_self, h2⟩
      | tail _ hm => obtain ⟨v0, a, b⟩ := ih h3 hm; exact ⟨v0, List.mem_cons_of_mem _ a, b⟩
def qA1 (m : Nat) (ren : List (Nat × Nat)) (ks : List Nat) : Bool :=
  ren.all (fun x => Nat.ble m x.1) && ks.all (fun i => (Nat.blt i m || Nat.ble m (renS ren i)) && ks.all (fun j => Nat.beq i j || !Nat.beq (renS ren i) (renS ren j)))
theorem renS_lt {m : Nat} {ren : List (Nat × Nat)} (h : ren.all (fun x => Nat.ble m x.1) = true) {k : Nat} (hk : k < m) : renS ren k = k := by
  induction ren with
  | nil => rfl
  | cons x l ih =>
    obtain ⟨a, b⟩ := x
    rw [List.all_cons, Bool.and_eq_true] at h
    have h1 := Nat.le_of_ble_eq_true h.1
    have : Nat.beq k a = false := by
      cases hb : Nat.beq k a with
      | false => rfl
      | true => have := Nat.eq_of_beq_eq_true hb; have h1 : m ≤ a := h1; omega
    simp only [renS, this, cond_false]
    exact ih h.2
theorem eY {C : Ctx} {S : St} {T T0 : List (Nat × Value)} {L L0 : List (Nat × Blk)} (ren : List (Nat × Nat)) (hT : AllT S T0) (hL : AllH S L0) (rT : RenT (renS ren) (keyB C.m L) T T0) (rL : RenH (renS ren) (keyB C.m L) L L0)
    (hc : qA1 C.m ren (L.map (·.1)) = true) : Weak C S (mkSt C.m T L) := by
  unfold qA1 at hc
  rw [Bool.and_eq_true] at hc
  obtain ⟨c1, c2⟩ := hc
  have sl : ∀ k, k < C.m → renS ren k = k := fun k hk => renS_lt c1 hk
  have mem : ∀ k, keyB C.m L k → k < C.m ∨ k ∈ L.map (·.1) := fun k hk => by
    unfold keyB at hk
    rw [Bool.or_eq_true] at hk
    exact hk.imp gB any_beq.1
  have inj : ∀ i j, i ∈ L.map (·.1) → j ∈ L.map (·.1) → renS ren i = renS ren j → i = j := fun i j hi hj e => by
    have h := List.all_eq_true.1 c2 i hi
    rw [Bool.and_eq_true] at h
    have h := List.all_eq_true.1 h.2 j hj
    rw [Bool.or_eq_true] at h
    rcases h with h | h
    · exact Nat.eq_of_beq_eq_true h
    · rw [e] at h; simp at h
  intro ρ a w h
  have hdf : ∀ k b, base C.m k ≠ .live b := fun k b e => by unfold base at e; cases hh : Nat.blt k C.m <;> rw [hh] at e <;> cases e
  let ρ' : Ren := fun k => bif (Nat.blt k C.m || (L.map (·.1)).any (Nat.beq k)) then ρ (renS ren k) else none
  have hp : ∀ k, keyB C.m L k → ρ' k = ρ (renS ren k) := fun k hk => by
    have hk' : (Nat.blt k C.m || (L.map (·.1)).any (Nat.beq k)) = true := hk
    simp only [ρ', hk', cond_true]
  have hlive : ∀ k b, ofH (base C.m k) L k = .live b → ∃ b0, S.H (renS ren k) = .live b0 ∧ RenB (renS ren) (keyB C.m L) b b0 ∧ k ∈ L.map (·.1) ∧ keyB C.m L k := fun k b hk => by
    have hm := jY (hdf k) hk
    obtain ⟨b0, m0, r0⟩ := rL.left hm
    have hmem : k ∈ L.map (·.1) := List.mem_map.2 ⟨(k, b), hm, rfl⟩
    exact ⟨b0, hL.mem m0, r0, hmem, by unfold keyB; rw [any_beq.2 hmem]; simp⟩
  refine ⟨ρ', h.size, h.defers, fun t v hv => ?_, ⟨fun k hk => ?_, fun k b hk => ?_, ?_⟩, h.frame, fun k b sp hk ho hsp => ?_, fun k hk => ?_⟩
  · obtain ⟨v0, m0, r0⟩ := rT.left (vZ hv)
    obtain ⟨v', h1, h2⟩ := h.temps t v0 (hT.mem m0)
    exact ⟨v', h1, r0.into hp h2⟩
  · have hk2 : ofH (base C.m k) L k = .fresh := hk
    have hn : ¬ (Nat.blt k C.m || (L.map (·.1)).any (Nat.beq k)) = true := fun hb => by
      by_cases hm : k ∈ L.map (·.1)
      · obtain ⟨b, hb'⟩ := xF (d := base C.m k) hm
        rw [hb'] at hk2; cases hk2
      · rw [v7 hm] at hk2
        rw [Bool.or_eq_true] at hb
        rcases hb with hb | hb
        · unfold base at hk2; rw [hb] at hk2; cases hk2
        · exact hm (any_beq.1 hb)
    simp only [ρ', hn, cond_false]
  · obtain ⟨b0, h1, r0, hm, h3⟩ := hlive k b hk
    obtain ⟨sp, e1, e2⟩ := h.heap.live _ b0 h1
    exact ⟨sp, by rw [hp k h3]; exact e1, r0.into hp e2⟩
  · intro k1 k2 b1 b2 sp1 sp2 hne h1 h2 ho nv e1 e2
    obtain ⟨c1, a1, r1, m1, q1⟩ := hlive k1 b1 h1
    obtain ⟨c2, a2, r2, m2, q2⟩ := hlive k2 b2 h2
    rw [hp k1 q1] at e1
    rw [hp k2 q2] at e2
    exact h.heap.apart _ _ c1 c2 sp1 sp2 (fun e => hne (inj _ _ m1 m2 e)) a1 a2 (by rw [r1.own]; exact ho) (fun v => nv (r2.void.2 v)) e1 e2
  · obtain ⟨b0, a0, r0, _, q⟩ := hlive k b hk
    rw [hp k q] at hsp
    exact h.owned _ b0 sp a0 (by rw [r0.own]; exact ho) hsp
  · obtain ⟨sp, p1, p2⟩ := h.pin k hk
    refine ⟨sp, p1, ?_⟩
    rw [hp k (by unfold keyB; rw [show Nat.blt k C.m = true from Nat.ble_eq_true_of_le hk]; rfl), sl k hk]; exact p2
theorem al_r {C : Ctx} {P : Program} {Q : Exit → St → Prop} {c : Code} {S : St} (ren : List (Nat × Nat)) (T0 : List (Nat × Value)) (L0 : List (Nat × Blk)) (T : List (Nat × Value)) (L : List (Nat × Blk)) (h : AL C P c (mkSt C.m T L) Q)
    (rT : RenT (renS ren) (keyB C.m L) T T0) (rL : RenH (renS ren) (keyB C.m L) L L0) (hc : qA1 C.m ren (L.map (·.1)) = true := by kernel_rfl) (hT : T0.map (fun x => S.T x.1) = T0.map (fun x => some x.2) := by kernel_rfl)
    (hL : L0.map (fun x => S.H x.1) = L0.map (fun x => .live x.2) := by kernel_rfl) : AL C P c S Q := wZ (eY ren (gM hT) (yY hL) rT rL hc) h
theorem aw_r {C : Ctx} {P : Program} {Q : Exit → St → Prop} {c : Code} {S : St} (ren : List (Nat × Nat)) (T0 : List (Nat × Value)) (L0 : List (Nat × Blk)) (T : List (Nat × Value)) (L : List (Nat × Blk)) (h : AW C P c (mkSt C.m T L) Q)
    (rT : RenT (renS ren) (keyB C.m L) T T0) (rL : RenH (renS ren) (keyB C.m L) L L0) (hc : qA1 C.m ren (L.map (·.1)) = true := by kernel_rfl) (hT : T0.map (fun x => S.T x.1) = T0.map (fun x => some x.2) := by kernel_rfl)
    (hL : L0.map (fun x => S.H x.1) = L0.map (fun x => .live x.2) := by kernel_rfl) : AW C P c S Q := yL (eY ren (gM hT) (yY hL) rT rL hc) h
section
variable {C : Ctx} {P : Program} {ops : Array Oper} {S : St} {i : Nat}
theorem does_apx {x y : Operand} {t e : TypeId} {inf : TypeInfo} {zv : Value} {k n c k2 m c2 k' : Nat} {b b2 : Blk} (l : List Value) (hs : l8 P ops S i = some (x, y, t, e, inf, zv))
    (hx : ev S x = some (.slice (some ⟨k, 0, none⟩) n c)) (hy : ev S y = some (.slice (some ⟨k2, 0, none⟩) m c2)) (hH : S.H k = .live b) (hH2 : S.H k2 = .live b2) (hK : S.H k' = .fresh)
    (hz : (b.own && Nat.beq b.elem e && Nat.beq b.step inf.size && vK b2.cells && Nat.beq (m * inf.size) b2.cells.length && Nat.ble 1 m) = true) (hn : b.cells.length = n * inf.size)
    (hB : (n + m) * inf.bytes ≤ 140737488355328) (hM : n + m ≤ 4611686018427387904) (hl : b.cells ++ b2.cells = l) :
    Does C P ops i S ⟨[k, k2, k'], .slice (some ⟨k', 0, none⟩) (n + m) 0, [(k, .gone), (k', .live ⟨l, e, true, inf.size⟩)]⟩ := by
  simp only [Bool.and_eq_true] at hz
  obtain ⟨⟨⟨⟨⟨z1, z2⟩, z3⟩, z4⟩, z5⟩, z6⟩ := hz
  have q := Nat.eq_of_beq_eq_true z5
  have e2 : (b2.cells.drop 0).take (m * inf.size) = b2.cells := by rw [List.drop_zero, q, List.take_length]
  have e1 : (b.cells.drop 0).take (n * inf.size) = b.cells := by rw [List.drop_zero, ← hn, List.take_length]
  have h := wV (C := C) (P := P) (ops := ops) (S := S) (i := i) hs hx hy hH hH2 hK (by
    simp only [Bool.and_eq_true, e2]
    refine ⟨⟨⟨⟨⟨⟨z1, z2⟩, z3⟩, z4⟩, Nat.ble_eq_true_of_le (by omega)⟩, Nat.ble_eq_true_of_le (by omega)⟩, z6⟩) hB hM
  rw [e1, e2, hl] at h
  exact h
end
section
variable {C : Ctx} {P : Program} {ops : Array Oper} {S : St} {i : Nat}
/-- what an append looks at -/
def apyAt (P : Program) (ops : Array Oper) (S : St) (i : Nat) : Option (Nat × Nat × Nat × Option Value × Option Value) := match l8 P ops S i with
  | some (x, y, _, e, inf, _) => some (e, inf.size, inf.bytes, ev S x, ev S y)
  | none => none
theorem j2 (k' e z bt k n k2 m : Nat) (b b2 : Blk) (l : List Value) (h1 : apyAt P ops S i = some (e, z, bt, some (.slice (some ⟨k, 0, none⟩) n 0), some (.slice (some ⟨k2, 0, none⟩) m 0)))
    (hH : S.H k = .live b) (hH2 : S.H k2 = .live b2) (hK : S.H k' = .fresh)
    (hz : (b.own && Nat.beq b.elem e && Nat.beq b.step z && vK b2.cells && Nat.beq (m * z) b2.cells.length && Nat.ble 1 m) = true) (hn : b.cells.length = n * z)
    (hB : (n + m) * bt ≤ 140737488355328) (hM : n + m ≤ 4611686018427387904) (hl : b.cells ++ b2.cells = l) :
    Does C P ops i S ⟨[k, k2, k'], .slice (some ⟨k', 0, none⟩) (n + m) 0, [(k, .gone), (k', .live ⟨l, e, true, z⟩)]⟩ := by
  unfold apyAt at h1
  split at h1
  · rename_i x y t e' inf zv hs
    simp only [Option.some.injEq, Prod.mk.injEq] at h1
    obtain ⟨rfl, rfl, rfl, hx, hy⟩ := h1
    exact does_apx l hs hx hy hH hH2 hK hz hn hB hM hl
  · cases h1
end
open Go Go.RowKit
section
variable {C : Ctx} {P : Program} {ops : Array Oper} {S : St} {i : Nat}
theorem lG {x y : Operand} {t e : TypeId} {inf : TypeInfo} {zv : Value} {k n c k2 off2 c2 k' : Nat} {b : Blk} (hs : l8 P ops S i = some (x, y, t, e, inf, zv))
    (hx : ev S x = some (.slice (some ⟨k, 0, none⟩) n c)) (hy : ev S y = some (.slice (some ⟨k2, off2, none⟩) 0 c2)) (hH : S.H k = .live b) (hK : S.H k' = .fresh) (hn1 : 1 ≤ n)
    (hz : (b.own && Nat.beq b.elem e && Nat.beq b.step inf.size) = true) :
    Does C P ops i S ⟨[k, k2, k'], .slice (some ⟨k', 0, none⟩) n 0, [(k, .gone), (k', .live ⟨b.cells, e, true, inf.size⟩)]⟩ := by
  obtain ⟨hsh, hu, hi, hzv, hzs⟩ := fH hs
  refine .of_run hsh fun o ho S' ρ a w hT hH' hr => ?_
  simp only [Bool.and_eq_true] at hz
  obtain ⟨⟨b1, b2'⟩, b3⟩ := hz
  have eel := Nat.eq_of_beq_eq_true b2'
  have est := Nat.eq_of_beq_eq_true b3
  have hrx := jM hr (by rw [hT x (by simp [Op.operands, Call.operands])]; exact hx)
  have hry := jM hr (by rw [hT y (by simp [Op.operands, Call.operands])]; exact hy)
  generalize hax : a.eval x = ax at hrx
  generalize hay : a.eval y = ay at hry
  have hHk : S'.H k = .live b := by rw [hH' k (by simp)]; exact hH
  have hHf : S'.H k' = .fresh := by rw [hH' k' (by simp)]; exact hK
  cases hrx with
  | slice0 => omega
  | slice _ _ _ _ cap sp hk hc1 hs1 =>
    obtain ⟨q1, e1, e2⟩ := hr.heap.live k b hHk
    rw [hk] at e1; cases e1
    have e2' := e2
    rw [jC.own b1] at e2'
    obtain ⟨st, cur, hg, hcs, hcl, hcc⟩ := e2'
    obtain ⟨hle, hm⟩ := Rel.move hr (k := k) (k' := k') (d := 0) (b := b) (b' := ⟨b.cells, e, true, inf.size⟩) hHk b1 hk hHf (by omega) rfl eel.symm est.symm (by show b.cells.length ≤ _; omega) (fun j u hu => by rw [Nat.zero_add]; exact hu)
    have key : ∀ (A : Option Addr) (c : Nat), (Builtin.append_ #[t, t] o.type #[.slice (some ⟨sp.block, sp.off + 0, none⟩) n cap, .slice A 0 c]).run P w = .ok (.slice (some ⟨sp.block, sp.off + 0, none⟩) n cap) w := by
      intro A c
      have hf : (Builtin.firstCells inf.size 0 (.slice A 0 c)).run P w = .ok #[] w := by
        cases A with
        | none => exact run_firstCells_none _ _ _ _ _
        | some A => exact run_firstCells_some (P := P) w inf.size 0 A 0 c [] (by simp) (by simp)
      simp [Builtin.append_, run_underlying hu, sizeOf, typeInfo, hi, Builtin.lenOf, hc1, hf, storeCells]
    have hval : VRel (upd ρ k' (some ⟨sp.block, sp.off + 0, sp.size - 0, sp.step⟩)) (.slice (some ⟨k', 0, none⟩) n 0) (.slice (some ⟨sp.block, sp.off + 0, none⟩) n cap) :=
      .slice k' 0 n 0 cap ⟨sp.block, sp.off + 0, sp.size - 0, sp.step⟩ (jE _ _ _) hc1 (by show 0 + cap * sp.step ≤ sp.size - 0; omega)
    cases hry with
    | slice0 _ _ _ A =>
      refine ⟨_, w, _, .slice (some ⟨sp.block, sp.off + 0, none⟩) n cap, ?_, .inl rfl, hval, hm⟩
      have ev1 : (#[x, y] : Array Operand).map a.eval = #[.slice (some ⟨sp.block, sp.off + 0, none⟩) n cap, .slice A 0 0] := by simp [hax, hay]
      simp only [execOp, ho, resolve, ev1, Sem.run_bind, Sem.run_pure, Result.andThen_ok, invoke, builtin, key]
    | slice _ _ _ _ cap2 sp2 hk2 hc2 hs2 =>
      refine ⟨_, w, _, .slice (some ⟨sp.block, sp.off + 0, none⟩) n cap, ?_, .inl rfl, hval, hm⟩
      have ev1 : (#[x, y] : Array Operand).map a.eval = #[.slice (some ⟨sp.block, sp.off + 0, none⟩) n cap, .slice (some ⟨sp2.block, sp2.off + off2, none⟩) 0 cap2] := by simp [hax, hay]
      simp only [execOp, ho, resolve, ev1, Sem.run_bind, Sem.run_pure, Result.andThen_ok, invoke, builtin, key]
end
theorem qE5 {ρ : Ren} {k n c l cc : Nat} {a : Option Addr} (h : VRel ρ (.slice (some ⟨k, 0, none⟩) n c) (.slice a l cc)) : n ≤ l := by
  cases h with
  | slice => exact Nat.le_refl _
  | slice0 => exact Nat.zero_le _
theorem rows_room {H : Type} {enc : TypeId × Value → H} {P : Program} {t e : TypeId} {w : World} {v : Value} {d : DataW H} {p : List MemPlace} {len j bt : Nat} {sp : Spot} {b : Blk} {ts : List TypeId} {ds : List (DataW H)}
    (ht : P.underlying t = some (.slice e)) (h : DataW.Trod enc P w 0 (fun _ => true) true t v d p) (hv : ∃ a l c, v = .slice a l c)
    (hs : ∀ (ρ : Ren) (k : Nat), ρ k = some sp → VRel ρ (.slice (some ⟨k, 0, none⟩) len 0) v ∧ jC ρ w sp b)
    (hsz : (DataW.weightsEach P ts ds).all (· ≤ reachBytes) = true) (htj : ts[j]? = some t) (hdj : ds[j]? = some d) (hb : P.bytesOf e = bt) : len * bt ≤ 140737488351232 := by
  obtain ⟨a0, l0, c0, rfl⟩ := hv
  have hr := qE5 (hs (fun _ => some sp) 0 rfl).1
  obtain ⟨fuel, hf⟩ := h
  rcases Go.Deep.open_slice ht hf with ⟨hcs, hx⟩ | ⟨a, len', cap, m, n', D, Pl, hcs, _, hlen, hm, hmm, hx, hi⟩
  · simp [Value.cells] at hcs
    obtain ⟨rfl, rfl, rfl⟩ := hcs
    rw [show len = 0 by omega]; omega
  · simp [Value.cells] at hcs
    obtain ⟨rfl, rfl, rfl⟩ := hcs
    simp only [Prod.mk.injEq] at hx
    obtain ⟨rfl, _⟩ := hx
    have h3 := sized_slice hsz htj hdj ht
    rw [hb] at h3
    simp only [List.length_map, List.length_range] at h3
    have h4 : len * bt ≤ (l0 + (m - l0)) * bt := Nat.mul_le_mul_right _ (by omega)
    have : reachBytes = 140737488351232 := by decide
    omega
section
variable {C : Ctx} {P : Program} {ops : Array Oper} {S : St} {i : Nat}
def mkAt (P : Program) (ops : Array Oper) (S : St) (i : Nat) : Option (TypeId × Nat × Nat × Value × Option Value × Option Value) := match qZ ops S i with
  | some (.makeSlice t x y, true) => match vF P t with
    | some e => match P.info? e with
      | some inf => match inf.zero with
        | some z => some (e, inf.size, inf.bytes, z, ev S x, ev S y)
        | none => none
      | none => none
    | none => none
  | _ => none
theorem vS (k e z bt : Nat) (n c : Nat) (zv : Value) (cells : List Value) {kl kc : IntKind} {n' c' : Int} (h1 : mkAt P ops S i = some (e, z, bt, zv, some (.int kl n'), some (.int kc c'))) (hk : S.H k = .fresh)
    (hf : cells.all flatB = true) (hc : (madeCells zv.cells (n * z)).toList = cells) (hn : n' = (n : Int)) (hc' : c' = (c : Int)) (hnc : n ≤ c) (hB : bt * c ≤ 140737488355328) (hM : c ≤ 4611686018427387904) :
    Does C P ops i S ⟨[k], .slice (some ⟨k, 0, none⟩) n 0, [(k, .live ⟨cells, e, true, z⟩)]⟩ := by
  subst hn hc'
  unfold mkAt at h1
  split at h1
  · rename_i t x y hs
    split at h1
    · rename_i e' he
      split at h1
      · rename_i inf hi
        split at h1
        · rename_i z' hz
          simp only [Option.some.injEq, Prod.mk.injEq] at h1
          obtain ⟨rfl, rfl, rfl, rfl, hx, hy⟩ := h1
          refine .of_run hs fun o ho S' ρ a w hT hH' hr => ?_
          have hu : P.underlying t = some (.slice e') := gN he
          have hrx := jM hr (by rw [hT x (by simp [Op.operands])]; exact hx)
          have hry := jM hr (by rw [hT y (by simp [Op.operands])]; exact hy)
          generalize hax : a.eval x = ax at hrx
          generalize hay : a.eval y = ay at hry
          cases hrx
          cases hry
          have hB2 : (inf.bytes : Int) * (c : Int) ≤ 281474976710656 := by
            rw [← Int.natCast_mul]; omega
          have hrun := run_make (P := P) w t e' inf z' hu hi hz kl kc (n : Int) (c : Int) (by omega) (by omega) hB2 (by omega)
          rw [Int.toNat_natCast, Int.toNat_natCast] at hrun
          have hle : n * inf.size ≤ c * inf.size := Nat.mul_le_mul_right _ hnc
          subst hc
          obtain ⟨hfr, hrel⟩ := Rel.new hr (by rw [hH' k (by simp)]; exact hk) (cells := (madeCells z'.cells (n * inf.size)).toList) (c := madeCells z'.cells (c * inf.size)) (e := e') (st := inf.size) (by rw [Array.length_toList, size_madeCells, size_madeCells]; exact hle)
            (fun j u hu => by
              have hj := (List.getElem?_eq_some_iff.1 hu).1
              rw [Array.length_toList, size_madeCells] at hj
              have hfl := qT (p := fun _ => False) (List.all_eq_true.1 hf u (List.mem_of_getElem? hu))
              refine ⟨u, ?_, .of_only (qT (List.all_eq_true.1 hf u (List.mem_of_getElem? hu)))⟩
              rw [Array.getElem?_toList] at hu
              unfold madeCells at hu ⊢
              rw [Array.getElem?_map, Array.getElem?_range] at hu ⊢
              rw [if_pos hj] at hu
              rw [if_pos (by omega)]
              exact hu)
          refine ⟨_, _, _, .slice (some ⟨w.heap.size, 0, none⟩) n c, ?_, .inl rfl, ?_, hrel⟩
          · simp only [execOp, ho, hax, hay, hrun, Sem.run_bind, Sem.run_pure, Result.andThen_ok]
          · refine .slice k 0 n 0 c _ (jE _ _ _) hnc ?_
            show 0 + c * inf.size ≤ (madeCells z'.cells (c * inf.size)).size
            rw [size_madeCells]; omega
        · cases h1
      · cases h1
    · cases h1
  · cases h1
end
def boolv (b : Bool) : Value := .bool b
theorem mP {ps : List (Int × Int)} {j off : Nat} {x y : Int} (ho : off = 2 * j) (hj : j < ps.length) : setL (ps.flatMap ptc) off [.int .i64 x, .int .i64 y] = (ps.set j (x, y)).flatMap ptc := by
  subst ho
  simp only [setL]
  induction ps generalizing j with
  | nil => simp at hj
  | cons p r ih =>
    cases j with
    | zero => simp [ptc]
    | succ j =>
      have h := ih (j := j) (by simpa using hj)
      rw [List.set_cons_succ, List.flatMap_cons, List.flatMap_cons, ← h]
      rw [show 2 * (j + 1) = 2 * j + 1 + 1 by omega, show 2 * j + 1 + 1 + 1 = 2 * j + 1 + 1 + 1 by rfl]
      simp [ptc]
theorem cH {α : Type} {f : α → Value} {xs : List α} {j : Nat} {a : α} {v : Value} (hv : f a = v) : setL (xs.map f) j [v] = (xs.set j a).map f := by
  subst hv
  simp [setL, List.map_set]
theorem sR (ps : List (Int × Int)) : vK (ps.flatMap ptc) = true := by
  unfold vK
  rw [List.all_eq_true]
  intro v hv
  obtain ⟨p, _, hp⟩ := List.mem_flatMap.1 hv
  simp only [ptc, List.mem_cons, List.not_mem_nil, or_false] at hp
  rcases hp with rfl | rfl <;> rfl
theorem uM {ps : List (Int × Int)} {off j m k : Nat} (ho : off = 2 * j) (hm : m = 2 * k) : ((ps.flatMap ptc).drop off).take m = ((ps.drop j).take k).flatMap ptc := by
  subst ho hm
  have hd : ∀ (n : Nat) (l : List (Int × Int)), (l.flatMap ptc).drop (2 * n) = (l.drop n).flatMap ptc := by
    intro n
    induction n with
    | zero => intro l; rfl
    | succ n ih =>
      intro l
      cases l with
      | nil => simp
      | cons p r => rw [List.flatMap_cons, show 2 * (n + 1) = 2 * n + 1 + 1 by omega, List.drop_succ_cons, ← ih r]; simp [ptc]
  have ht : ∀ (n : Nat) (l : List (Int × Int)), (l.flatMap ptc).take (2 * n) = (l.take n).flatMap ptc := by
    intro n
    induction n with
    | zero => intro l; simp
    | succ n ih =>
      intro l
      cases l with
      | nil => simp
      | cons p r => rw [List.flatMap_cons, show 2 * (n + 1) = 2 * n + 1 + 1 by omega, List.take_succ_cons, List.flatMap_cons, ← ih r]; simp [ptc]
  rw [hd, ht]
theorem plain_cut {l : List Value} (h : vK l = true) (a b : Nat) : vK ((l.drop a).take b) = true := by
  unfold vK at *
  rw [List.all_eq_true] at *
  exact fun v hv => h v (List.mem_of_mem_drop (List.mem_of_mem_take hv))
section
variable {C : Ctx} {P : Program} {ops : Array Oper} {S : St} {i : Nat}
theorem does_apg (N k' e z bt k n k2 off2 m : Nat) (b b2 : Blk) (l : List Value) (h1 : apyAt P ops S i = some (e, z, bt, some (.slice (some ⟨k, 0, none⟩) n 0), some (.slice (some ⟨k2, off2, none⟩) m 0)))
    (hH : S.H k = .live b) (hH2 : S.H k2 = .live b2) (hK : S.H k' = .fresh) (hz : (b.own && Nat.beq b.elem e && Nat.beq b.step z) = true) (hp : vK b2.cells = true) (hn : n * z ≤ b.cells.length) (ho : off2 + m * z ≤ b2.cells.length)
    (hc : 1 ≤ m ∨ (1 ≤ n ∧ b.cells.length = n * z)) (hB : (n + m) * bt ≤ 140737488355328) (hM : n + m ≤ 4611686018427387904) (hl : b.cells.take (n * z) ++ (b2.cells.drop off2).take (m * z) = l) (hN : n + m = N) :
    Does C P ops i S ⟨[k, k2, k'], .slice (some ⟨k', 0, none⟩) N 0, [(k, .gone), (k', .live ⟨l, e, true, z⟩)]⟩ := by
  subst hN
  unfold apyAt at h1
  split at h1
  · rename_i x y t e' inf zv hs
    simp only [Option.some.injEq, Prod.mk.injEq] at h1
    obtain ⟨rfl, rfl, rfl, hx, hy⟩ := h1
    have hz' := hz
    simp only [Bool.and_eq_true] at hz
    obtain ⟨⟨z1, z2⟩, z3⟩ := hz
    rcases Nat.eq_zero_or_pos m with rfl | hpos
    · rcases hc with hc | ⟨hn1, hc⟩
      · omega
      · rw [Nat.zero_mul, List.take_zero, List.append_nil, List.take_of_length_le (by omega)] at hl
        subst hl
        exact lG hs hx hy hH hK hn1 hz'
    · have h := wV (C := C) (P := P) (ops := ops) (S := S) (i := i) hs hx hy hH hH2 hK (by
        simp only [Bool.and_eq_true]
        exact ⟨⟨⟨⟨⟨⟨z1, z2⟩, z3⟩, plain_cut hp _ _⟩, Nat.ble_eq_true_of_le (by omega)⟩, Nat.ble_eq_true_of_le ho⟩, Nat.ble_eq_true_of_le hpos⟩) hB hM
      rw [List.drop_zero, hl] at h
      exact h
  · cases h1
def apzAt (P : Program) (ops : Array Oper) (S : St) (i : Nat) : Option (Operand × Operand × TypeId × TypeId × TypeId × IntKind × TypeInfo × Value) := match qZ ops S i with
  | some (.call c, true) => match c.callee with
    | .builtin b => match b with
      | .append => match c.args.toList, c.argTypes.toList with
        | [x, y], [t, t'] => match vF P t with
          | some e => match P.underlying t' with
            | some (.int kn) => match P.info? e with
              | some inf => match inf.zero with
                | some z => bif (Nat.beq z.cells.size inf.size && Nat.ble 1 inf.size) then some (x, y, t, t', e, kn, inf, z) else none
                | none => none
              | none => none
            | _ => none
          | none => none
        | _, _ => none
      | _ => none
    | _ => none
  | _ => none
end
section
variable {C : Ctx} {P : Program} {ops : Array Oper} {S : St} {i : Nat}
theorem RenV.funcL {σ : Nat → Nat} {p : Nat → Prop} {fn : Fn} {xs ys cs ds : Array Value} (h : RenL σ p xs.toList ys.toList) (h' : RenL σ p cs.toList ds.toList) : RenV σ p (.func fn xs cs) (.func fn ys ds) :=
  .func fn xs ys cs ds (by simpa using h.1) (fun i hi => h.2 i _ _ (by simp) (by have := h.1; simp at this; simp)) (by simpa using h'.1) (fun i hi => h'.2 i _ _ (by simp) (by have := h'.1; simp at this; simp))
def slnAt (P : Program) (ops : Array Oper) (S : St) (i : Nat) : Option (Option Value × Option Value) := match qZ ops S i with
  | some (.binOp op t x y _, true) => match op with
    | .eql => match vF P t with
      | some _ => some (ev S x, ev S y)
      | none => none
    | _ => none
  | _ => none
theorem bL {k off n c : Nat} (h1 : slnAt P ops S i = some (some (.slice (some ⟨k, off, none⟩) n c), some (.slice none 0 0))) (hn : 1 ≤ n) : Does C P ops i S ⟨[], .bool false, []⟩ := by
  unfold slnAt at h1
  split at h1
  · rename_i op t x y t2 hs
    split at h1
    · split at h1
      · rename_i e he
        simp only [Option.some.injEq, Prod.mk.injEq] at h1
        obtain ⟨hx, hy⟩ := h1
        have hu := gN he
        refine .of_run hs fun o ho S' ρ a w hT hH' hr => ?_
        have hrx := jM hr (by rw [hT x (by simp [Op.operands])]; exact hx)
        have hry := jM hr (by rw [hT y (by simp [Op.operands])]; exact hy)
        generalize hax : a.eval x = ax at hrx
        generalize hay : a.eval y = ay at hry
        cases hry with
        | nilSlice =>
          cases hrx with
          | slice0 => omega
          | slice _ _ _ _ cap sp hk hc1 hs1 =>
            refine ⟨_, w, ρ, .bool false, ?_, .inl rfl, .bool _, hr⟩
            have hg : (eqGuard .eql t x y (.slice (some ⟨sp.block, sp.off + off, none⟩) n cap) (.slice none 0 0)).run P w = .ok () w := by
              simp [eqGuard]
            have he : (Op.equal t (.slice (some ⟨sp.block, sp.off + off, none⟩) n cap) (.slice none 0 0)).run P w = .ok false w := by
              have key : ∀ d : Nat, (Op.equalIn (d + 1) t (.slice (some ⟨sp.block, sp.off + off, none⟩) n cap) (.slice none 0 0)).run P w = .ok false w := fun d => by simp [Op.equalIn, run_underlying hu]
              exact key 9999
            simp [execOp, ho, hax, hay, hg, binOp, he]
      · cases h1
    · cases h1
  · cases h1
end
theorem p6 (n : Nat) : (madeCells (Value.bool false).cells (n * 1)).toList = (List.replicate n false).map boolv := by
  unfold madeCells
  rw [Nat.mul_one, Array.toList_map, Array.toList_range, List.map_replicate]
  apply List.ext_getElem
  · simp
  · intro i h1 h2
    simp [Value.cells, boolv, Nat.mod_one]
theorem hC (l : List Bool) : (l.map boolv).all flatB = true := by
  rw [List.all_eq_true]
  intro v hv
  obtain ⟨b, _, rfl⟩ := List.mem_map.1 hv
  rfl
def mkF (m : Nat) (T : List (Nat × Value)) (L : List (Nat × Blk)) (G : Nat → Cell) : St := ⟨ofT T, fun k => bif Nat.ble 200 k then G k else ofH (base m k) L k⟩
theorem vE {m : Nat} {T : List (Nat × Value)} {L : List (Nat × Blk)} {G : Nat → Cell} {k : Nat} (h : k < 200) : (mkF m T L G).H k = ofH (base m k) L k := by
  show (bif Nat.ble 200 k then _ else _) = _
  have : Nat.ble 200 k = false := by
    cases hb : Nat.ble 200 k with
    | false => rfl
    | true => have := Nat.le_of_ble_eq_true hb; omega
  rw [this]; rfl
theorem vV {m : Nat} {T : List (Nat × Value)} {L : List (Nat × Blk)} {G : Nat → Cell} {k : Nat} (h : 200 ≤ k) : (mkF m T L G).H k = G k := by
  show (bif Nat.ble 200 k then _ else _) = _
  rw [Nat.ble_eq_true_of_le h]; rfl
theorem gL (m k : Nat) (b : Blk) : base m k ≠ .live b := fun e => by unfold base at e; cases hh : Nat.blt k m <;> rw [hh] at e <;> cases e
theorem jC.lend {ρ : Ren} {w : World} {sp : Spot} {b : Blk} (k : jC ρ w sp b) : jC ρ w sp { b with own := false } := by
  by_cases o : b.own = true
  · have k' := k
    rw [jC.own o] at k'
    obtain ⟨h1, c, h2, h3, h4, h5⟩ := k'
    have hlt := k.lt (gZ o)
    rw [jC.ro (by simp)]
    refine ⟨h1, .inr hlt, fun i u hu => ?_⟩
    obtain ⟨v, a, r⟩ := h5 i u hu
    exact ⟨v, by rw [cell_of_row w sp.block (sp.off + i) c b.elem (0, 0) h2]; exact a, r⟩
  · have : ({ b with own := false } : Blk) = b := by
      have o' : b.own = false := by simpa using o
      cases b; simp at o'; subst o'; rfl
    rw [this]; exact k
structure RenW (σ : Nat → Nat) (p : Nat → Prop) (b b0 : Blk) : Prop where
  elem : b.elem = b0.elem
  own : b.own = true → b0.own = true
  step : b.step = b0.step
  cells : RenL σ p b.cells b0.cells
theorem RenW.into {σ : Nat → Nat} {p : Nat → Prop} {ρ0 ρ : Ren} (hp : ∀ j, p j → ρ0 j = ρ (σ j)) {b b0 : Blk} (h : RenW σ p b b0) {w : World} {sp : Spot} (k : jC ρ w sp b0) : jC ρ0 w sp b := by
  cases hb : b.own with
  | true => exact RenB.into hp (b0 := b) (b := b0) ⟨h.elem.symm, (h.own hb).trans hb.symm, h.step.symm, h.cells⟩ k
  | false => exact RenB.into hp (b0 := b) (b := { b0 with own := false }) ⟨h.elem.symm, hb.symm, h.step.symm, h.cells⟩ k.lend
theorem RenW.void {σ : Nat → Nat} {p : Nat → Prop} {b b0 : Blk} (h : RenW σ p b b0) (v : Void b0) : Void b := by
  refine ⟨?_, ?_⟩
  · cases hb : b.own with
    | false => rfl
    | true => have := h.own hb; rw [v.1] at this; cases this
  · have := h.cells.1; rw [v.2] at this; exact List.length_eq_zero_iff.1 (by simpa using this)
open Classical in
/-- A state that says less: the names k of the new state are the names σ k of the old one; void blocks may come from nowhere. -/
theorem w6 {C : Ctx} {S S' : St} (σ : Nat → Nat) (p : Nat → Prop) (d : Nat → Option Nat)
    (hT : ∀ t v, S'.T t = some v → ∃ v0, S.T t = some v0 ∧ RenV σ p v v0)
    (hF : ∀ k, S'.H k = .fresh → (¬ p k ∧ d k = none) ∨ (p k ∧ S.H (σ k) = .fresh))
    (hH : ∀ k b, S'.H k = .live b → (p k ∧ ∃ b0, S.H (σ k) = .live b0 ∧ RenW σ p b b0) ∨ (¬ p k ∧ d k = some b.step ∧ Void b))
    (hI : ∀ k k' b b', k ≠ k' → S'.H k = .live b → S'.H k' = .live b' → b.own = true → ¬ Void b' → σ k ≠ σ k')
    (hP : ∀ k, k < C.m → p k ∧ σ k = k) : Weak C S S' := by
  intro ρ a w h
  let ρ' : Ren := fun k => if p k then ρ (σ k) else (d k).map fun s => ⟨0, 0, 0, s⟩
  have hp : ∀ k, p k → ρ' k = ρ (σ k) := fun k hk => if_pos hk
  refine ⟨ρ', h.size, h.defers, fun t v hv => ?_, ⟨fun k hk => ?_, fun k b hk => ?_, ?_⟩, h.frame, fun k b sp hk ho hsp => ?_, fun k hk => ?_⟩
  · obtain ⟨v0, h0, r0⟩ := hT t v hv
    obtain ⟨v', h1, h2⟩ := h.temps t v0 h0
    exact ⟨v', h1, r0.into hp h2⟩
  · rcases hF k hk with ⟨h1, h2⟩ | ⟨h1, h2⟩
    · show (if p k then _ else _) = _
      rw [if_neg h1, h2]; rfl
    · rw [hp k h1]; exact h.heap.fresh _ h2
  · rcases hH k b hk with ⟨h1, b0, h2, h3⟩ | ⟨h1, h2, h3⟩
    · obtain ⟨sp, e1, e2⟩ := h.heap.live _ b0 h2
      exact ⟨sp, (hp k h1).trans e1, h3.into hp e2⟩
    · refine ⟨⟨0, 0, 0, b.step⟩, ?_, ?_⟩
      · show (if p k then _ else _) = _
        rw [if_neg h1, h2]; rfl
      · rw [jC.ro (by rw [h3.1]; decide)]; exact ⟨rfl, .inl h3.2, fun i u hu => by rw [h3.2] at hu; simp at hu⟩
  · intro k1 k2 b1 b2 sp1 sp2 hne h1 h2 ho nv e1 e2
    rcases hH k1 b1 h1 with ⟨p1, c1, a1, r1⟩ | ⟨_, _, v1⟩
    · rcases hH k2 b2 h2 with ⟨p2, c2, a2, r2⟩ | ⟨_, _, v2⟩
      · rw [hp k1 p1] at e1; rw [hp k2 p2] at e2
        exact h.heap.apart _ _ c1 c2 sp1 sp2 (hI k1 k2 b1 b2 hne h1 h2 ho nv) a1 a2 (r1.own ho) (fun v => nv (r2.void v)) e1 e2
      · exact absurd v2 nv
    · exact absurd v1 (gZ ho)
  · rcases hH k b hk with ⟨p1, c1, a1, r1⟩ | ⟨_, _, v1⟩
    · rw [hp k p1] at hsp; exact h.owned _ c1 sp a1 (r1.own ho) hsp
    · exact absurd v1 (gZ ho)
  · obtain ⟨p1, e⟩ := hP k hk
    obtain ⟨sp, q1, q2⟩ := h.pin k hk
    exact ⟨sp, q1, by rw [hp k p1, e]; exact q2⟩
theorem RenV.same {p : Nat → Prop} {v : Value} (o : Only p v) : RenV (fun k => k) p v v := by
  induction o with
  | bool b => exact .flat _ (.bool b)
  | int k n => exact .flat _ (.int k n)
  | string s => exact .flat _ (.string s)
  | ptr k off h => exact .ptr k off h
  | nilPtr => exact .flat _ .nilPtr
  | nilFunc => exact .flat _ .nilFunc
  | nilIface => exact .flat _ .nilIface
  | nilSlice => exact .flat _ .nilSlice
  | slice k off len c h => exact .slice k off len c c h
  | func fn xs cs _ _ ih ih' => exact .func fn xs xs cs cs rfl ih rfl ih'
  | agg xs _ ih => exact .agg xs xs rfl ih
  | tuple xs _ ih => exact .tuple xs xs rfl ih
theorem RenL.same {p : Nat → Prop} {l : List Value} (h : ∀ v, v ∈ l → Only p v) : RenL (fun k => k) p l l :=
  ⟨rfl, fun j u x hu hx => by rw [hu] at hx; cases hx; exact .same (h u (List.mem_of_getElem? hu))⟩
def valF (m : Nat) (ks : List Nat) : Value → Bool
  | .pointer (some ⟨k, _, none⟩) => Nat.blt k m || ks.any (Nat.beq k) || Nat.ble 200 k
  | .slice (some ⟨k, _, none⟩) _ _ => Nat.blt k m || ks.any (Nat.beq k) || Nat.ble 200 k
  | v => c9 v
def wM (m : Nat) (ks : List Nat) : Value → Bool
  | .agg xs => xs.toList.all (valF m ks)
  | .tuple xs => xs.toList.all (fun v => valF m ks v || match v with
    | .agg ys => ys.toList.all (valF m ks)
    | _ => false)
  | .func _ xs ys => xs.toList.all (valF m ks) && ys.toList.all (valF m ks)
  | v => valF m ks v
def keyF (m : Nat) (L : List (Nat × Blk)) (k : Nat) : Prop := keyB m L k ∨ 200 ≤ k
theorem keyF_of {m : Nat} {L : List (Nat × Blk)} {k : Nat} (h : (Nat.blt k m || (L.map (·.1)).any (Nat.beq k) || Nat.ble 200 k) = true) : keyF m L k := by
  rw [Bool.or_eq_true] at h
  exact h.imp id Nat.le_of_ble_eq_true
theorem yZ {m : Nat} {L : List (Nat × Blk)} {v : Value} (h : valF m (L.map (·.1)) v = true) : Only (keyF m L) v := by
  unfold valF at h
  split at h
  · exact .ptr _ _ (keyF_of h)
  · exact .slice _ _ _ _ (keyF_of h)
  · exact gJ h
theorem bS {m : Nat} {L : List (Nat × Blk)} {v : Value} (h : wM m (L.map (·.1)) v = true) : Only (keyF m L) v := by
  unfold wM at h
  split at h
  · exact .agg _ (vD fun v hv => yZ (List.all_eq_true.1 h v hv))
  · refine .tuple _ (vD fun v hv => ?_)
    have := List.all_eq_true.1 h v hv
    rw [Bool.or_eq_true] at this
    rcases this with h1 | h1
    · exact yZ h1
    · split at h1
      · exact .agg _ (vD fun u hu => yZ (List.all_eq_true.1 h1 u hu))
      · cases h1
  · rw [Bool.and_eq_true] at h
    exact .func _ _ _ (vD fun v hv => yZ (List.all_eq_true.1 h.1 v hv)) (vD fun v hv => yZ (List.all_eq_true.1 h.2 v hv))
  · exact yZ h
/-- every block's cells name only blocks that are told -/
def ClF (m : Nat) (ks : List Nat) : List (Nat × Blk) → Prop
  | [] => True
  | (_, b) :: l => b.cells.all (wM m ks) = true ∧ ClF m ks l
theorem ClF.mem {m : Nat} {ks : List Nat} {L : List (Nat × Blk)} (h : ClF m ks L) {k : Nat} {b : Blk} (hm : (k, b) ∈ L) : b.cells.all (wM m ks) = true := by
  induction L with
  | nil => cases hm
  | cons x l ih =>
    cases hm with
    | head => exact h.1
    | tail _ hm => exact ih h.2 hm
def u5 (G : Nat → Cell) : Prop := ∀ k b, G k = .live b → ∀ v, v ∈ b.cells → Only (fun _ => False) v
theorem vT (m : Nat) (ks : List Nat) (ps : List (Int × Int)) : (ps.flatMap ptc).all (wM m ks) = true := by
  rw [List.all_eq_true]
  intro v hv
  obtain ⟨p, _, hp⟩ := List.mem_flatMap.1 hv
  simp only [ptc, List.mem_cons, List.not_mem_nil, or_false] at hp
  rcases hp with rfl | rfl <;> rfl
theorem i64_cl (m : Nat) (ks : List Nat) (xs : List Int) : (xs.map i64v).all (wM m ks) = true := by
  rw [List.all_eq_true]
  intro v hv
  obtain ⟨p, _, rfl⟩ := List.mem_map.1 hv
  rfl
abbrev Row := List (Int × Int)
def hdv (nm : Nat → Nat) (X : List Row) (j : Nat) : Value := .slice (some ⟨nm j, 0, none⟩) (X.getD j []).length 0
def hds (nm : Nat → Nat) (X : List Row) : List Value := (List.range X.length).map (hdv nm X)
def hi2 (j : Nat) : Nat := j + 200
theorem hds_len (nm : Nat → Nat) (X : List Row) : (hds nm X).length = X.length := by simp [hds]
theorem hds_get {nm : Nat → Nat} {X : List Row} {j : Nat} : (hds nm X)[j]? = if j < X.length then some (hdv nm X j) else none := by
  unfold hds
  rw [List.getElem?_map]
  split
  · rename_i h; rw [List.getElem?_range h]; rfl
  · rename_i h; rw [List.getElem?_eq_none_iff.2 (by simpa using h)]; rfl
theorem jJ (m : Nat) (ks : List Nat) (X : List Row) : (hds (· + 200) X).all (wM m ks) = true := by
  rw [List.all_eq_true]
  intro v hv
  obtain ⟨j, _, rfl⟩ := List.mem_map.1 hv
  show (Nat.blt (j + 200) m || ks.any (Nat.beq (j + 200)) || Nat.ble 200 (j + 200)) = true
  rw [Nat.ble_eq_true_of_le (by omega)]; simp
def famR (TP : TypeId) (X : List Row) : Nat → Cell := fun k => .live ⟨(X.getD (k - 200) []).flatMap ptc, TP, false, 2⟩
theorem qS (TP : TypeId) (X : List Row) : u5 (famR TP X) := fun k b h v hv => by
  unfold famR at h
  simp only [Cell.live.injEq] at h
  subst h
  exact qT (List.all_eq_true.1 (qA _) v hv)
theorem cY {P : Program} {t : TypeId} {nm : Nat → Nat} {X : List Row} {j : Nat} (ha : aggB P t = some false) (hi : (P.info? t).isSome = true) (h : j < X.length) : ldV P t (hds nm X) j = some (.slice (some ⟨nm j, 0, none⟩) (X.getD j []).length 0) := by
  unfold hds
  rw [s6 0 ha hi (by simpa using h)]
  rw [show (List.range X.length).getD j 0 = j by rw [List.getD_eq_getElem?_getD, List.getElem?_range h]; rfl]
  rfl
/-- The state is told anew, without new names. -/
theorem weakF {C : Ctx} {S : St} {T : List (Nat × Value)} {L : List (Nat × Blk)} {G : Nat → Cell} (hT : AllT S T) (hL : AllH S L) (hG : ∀ k, 200 ≤ k → S.H k = G k) (cT : (T.all fun x => wM C.m (L.map (·.1)) x.2) = true) (cL : ClF C.m (L.map (·.1)) L) (fG : u5 G) : Weak C S (mkF C.m T L G) := by
  refine w6 (fun k => k) (keyF C.m L) (fun _ => none) (fun t v hv => ?_) (fun k hk => ?_) (fun k b hk => .inl ?_) (fun k k' b b' hne _ _ _ _ => hne) (fun k hk => ⟨.inl ?_, rfl⟩)
  · have hm := vZ hv
    exact ⟨v, hT.mem hm, .same (bS (List.all_eq_true.1 cT (t, v) hm))⟩
  · rcases Nat.lt_or_ge k 200 with hlt | hge
    · rw [vE hlt] at hk
      refine .inl ⟨fun hb => ?_, rfl⟩
      rcases hb with hb | hb
      · unfold keyB at hb
        by_cases hm : k ∈ L.map (·.1)
        · obtain ⟨b, hb'⟩ := xF (d := base C.m k) hm
          rw [hb'] at hk; cases hk
        · rw [v7 hm] at hk
          rw [Bool.or_eq_true] at hb
          rcases hb with hb | hb
          · unfold base at hk; rw [hb] at hk; cases hk
          · exact hm (any_beq.1 hb)
      · omega
    · rw [vV hge] at hk
      exact .inr ⟨.inr hge, by show S.H k = _; rw [hG k hge]; exact hk⟩
  · rcases Nat.lt_or_ge k 200 with hlt | hge
    · rw [vE hlt] at hk
      have hm := jY (gL _ _) hk
      refine ⟨.inl (by unfold keyB; rw [any_beq.2 (List.mem_map.2 ⟨(k, b), hm, rfl⟩)]; simp), b, hL.mem hm, rfl, id, rfl, .same fun v hv => bS (List.all_eq_true.1 (cL.mem hm) v hv)⟩
    · rw [vV hge] at hk
      exact ⟨.inr hge, b, by show S.H k = _; rw [hG k hge]; exact hk, rfl, id, rfl, .same fun v hv => (fG k b hk v hv).mono (fun _ hf => hf.elim)⟩
  · unfold keyB; rw [show Nat.blt k C.m = true from Nat.ble_eq_true_of_le hk]; rfl
theorem rX {H G : Nat → Cell} (h : ∀ j, H (j + 200) = G (j + 200)) : ∀ k, 200 ≤ k → H k = G k := fun k hk => by
  have := h (k - 200); rwa [show k - 200 + 200 = k by omega] at this
section
variable {C : Ctx} {P : Program} {Q : Exit → St → Prop} {c : Code} {S : St}
theorem wX (T : List (Nat × Value)) (L : List (Nat × Blk)) (G : Nat → Cell) (cL : ClF C.m (L.map (·.1)) L) (fG : u5 G) (h : AW C P c (mkF C.m T L G) Q) (hT : T.map (fun x => S.T x.1) = T.map (fun x => some x.2) := by kernel_rfl)
    (hL : L.map (fun x => S.H x.1) = L.map (fun x => .live x.2) := by kernel_rfl) (hG : ∀ j, S.H (j + 200) = G (j + 200) := by intro j; kernel_rfl) (cT : (T.all fun x => wM C.m (L.map (·.1)) x.2) = true := by kernel_rfl) : AW C P c S Q :=
  yL (weakF (gM hT) (yY hL) (rX hG) cT cL fG) h
theorem al_wF (T : List (Nat × Value)) (L : List (Nat × Blk)) (G : Nat → Cell) (cL : ClF C.m (L.map (·.1)) L) (fG : u5 G) (h : AL C P c (mkF C.m T L G) Q) (hT : T.map (fun x => S.T x.1) = T.map (fun x => some x.2) := by kernel_rfl)
    (hL : L.map (fun x => S.H x.1) = L.map (fun x => .live x.2) := by kernel_rfl) (hG : ∀ j, S.H (j + 200) = G (j + 200) := by intro j; kernel_rfl) (cT : (T.all fun x => wM C.m (L.map (·.1)) x.2) = true := by kernel_rfl) : AL C P c S Q :=
  wZ (weakF (gM hT) (yY hL) (rX hG) cT cL fG) h
end
def famP (TH TP : TypeId) (X : List Row) : List (Nat × Blk) := (0, ⟨hds (· + 1) X, TH, false, 1⟩) :: (List.range X.length).map fun j => (j + 1, ⟨(X.getD j []).flatMap ptc, TP, false, 2⟩)
theorem bK {TH TP : TypeId} {X : List Row} {k : Nat} {b : Blk} (h : (k, b) ∈ famP TH TP X) : (k = 0 ∧ b = ⟨hds (· + 1) X, TH, false, 1⟩) ∨ ∃ j, j < X.length ∧ k = j + 1 ∧ b = ⟨(X.getD j []).flatMap ptc, TP, false, 2⟩ := by
  unfold famP at h
  rcases List.mem_cons.1 h with h | h
  · simp only [Prod.mk.injEq] at h; exact .inl h
  · obtain ⟨j, hj, e⟩ := List.mem_map.1 h
    simp only [Prod.mk.injEq] at e
    exact .inr ⟨j, List.mem_range.1 hj, e.1.symm, e.2.symm⟩
theorem qBD {TH TP : TypeId} {X : List Row} : (0, (⟨hds (· + 1) X, TH, false, 1⟩ : Blk)) ∈ famP TH TP X := List.mem_cons_self
theorem qBC {TH TP : TypeId} {X : List Row} {j : Nat} (h : j < X.length) : (j + 1, (⟨(X.getD j []).flatMap ptc, TP, false, 2⟩ : Blk)) ∈ famP TH TP X :=
  List.mem_cons_of_mem _ (List.mem_map.2 ⟨j, List.mem_range.2 h, rfl⟩)
theorem nT {TH TP : TypeId} {X : List Row} {k : Nat} {b : Blk} (h : (k, b) ∈ famP TH TP X) : b.own = false := by
  rcases bK h with ⟨_, rfl⟩ | ⟨j, _, _, rfl⟩ <;> rfl
/-- The walk of a function whose first block is a slice of slices; its value is flat. -/
theorem acF {P : Program} {f : FuncId} {fn : Func} {TH TP : TypeId} {X : List Row} {args : List Value} {v : Value} (hf : P.funcs[f]? = some fn) (ha : fL (· = 0) args) (hv : flatB v = true)
    (h : ∀ w0 W pin, AW ⟨w0, W, fn.ntmps, 1, pin, []⟩ P (sb fn 1) (mkF 1 (fF 0 args) [(0, ⟨hds (· + 200) X, TH, false, 1⟩)] (famR TP X)) (EndQ P fn v []))
    (hb : fn.body = some (mK fn) := by kernel_rfl) (hn : Nat.ble args.length fn.ntmps = true := by kernel_rfl) : AC P f (1 + X.length) args (famP TH TP X) v [] := by
  intro ρ w args' hl ha' hp hlow hhigh
  have hle := Nat.le_of_ble_eq_true hn
  refine calls_of_wp hf hb ?_
  have hW : ∀ b, ¬ jX ρ (famP TH TP X) b := by
    rintro b ⟨k, b, sp, hm, ho, _⟩
    rw [nT hm] at ho; cases ho
  let ρ1 : Ren := fun k => if k = 0 then ρ 0 else if 200 ≤ k then (if k - 200 < X.length then ρ (k - 200 + 1) else some ⟨0, 0, 0, 2⟩) else none
  have h10 : ρ1 0 = ρ 0 := rfl
  have h1s : ∀ j, j < X.length → ρ1 (j + 200) = ρ (j + 1) := fun j hj => by
    show (if j + 200 = 0 then _ else if 200 ≤ j + 200 then (if j + 200 - 200 < X.length then ρ (j + 200 - 200 + 1) else _) else _) = _
    rw [if_neg (by omega), if_pos (by omega), if_pos (by omega), Nat.add_sub_cancel]
  have hrel : Rel ⟨w, jX ρ (famP TH TP X), fn.ntmps, 1, ρ, []⟩ ρ1 (mkF 1 (fF 0 args) [(0, ⟨hds (· + 200) X, TH, false, 1⟩)] (famR TP X)) { tmps := args' ++ Array.replicate (fn.ntmps - args'.size) undef, defers := [] } w := by
    have live : ∀ k b, (mkF 1 (fF 0 args) [(0, ⟨hds (· + 200) X, TH, false, 1⟩)] (famR TP X)).H k = .live b → b.own = false ∧ ∃ sp, ρ1 k = some sp ∧ jC ρ1 w sp b := fun k b hk => by
      rcases Nat.lt_or_ge k 200 with hlt | hge
      · rw [vE hlt] at hk
        have hm := jY (gL _ _) hk
        simp only [List.mem_cons, List.not_mem_nil, or_false, Prod.mk.injEq] at hm
        obtain ⟨rfl, rfl⟩ := hm
        refine ⟨rfl, ?_⟩
        obtain ⟨sp, e1, e2⟩ := hp.live 0 _ qBD
        refine ⟨sp, e1, e2.map rfl rfl rfl (by simp [hds]) (fun i u hu => ?_)⟩
        rw [show (⟨hds (· + 200) X, TH, false, 1⟩ : Blk).cells = hds (· + 200) X from rfl, hds_get] at hu
        rw [show (⟨hds (· + 1) X, TH, false, 1⟩ : Blk).cells = hds (· + 1) X from rfl, hds_get]
        split at hu
        · rename_i hi
          cases hu
          refine ⟨_, by rw [if_pos hi], fun v r => ?_⟩
          unfold hdv at r ⊢
          generalize (X.getD i []).length = n at r ⊢
          cases r with
          | slice _ _ _ _ cap sp hk hc hs => exact .slice _ 0 n 0 cap sp ((h1s i hi).trans hk) hc hs
          | slice0 _ _ _ A => exact .slice0 _ 0 0 A
        · cases hu
      · rw [vV hge] at hk
        unfold famR at hk
        simp only [Cell.live.injEq] at hk
        subst hk
        refine ⟨rfl, ?_⟩
        rcases Nat.lt_or_ge (k - 200) X.length with hj | hj
        · obtain ⟨sp, e1, e2⟩ := hp.live _ _ (qBC (TH := TH) (TP := TP) hj)
          refine ⟨sp, by rw [show k = k - 200 + 200 by omega, h1s _ hj]; exact e1, e2.map rfl rfl rfl (Nat.le_refl _) (fun i u hu => ⟨u, hu, fun v r => ?_⟩)⟩
          have := qT (p := fun _ => False) (List.all_eq_true.1 (qA _) u (List.mem_of_getElem? hu))
          rw [r.eq_of_only this]; exact .of_only this
        · refine ⟨⟨0, 0, 0, 2⟩, ?_, ?_⟩
          · show (if k = 0 then _ else if 200 ≤ k then (if k - 200 < X.length then _ else _) else _) = _
            rw [if_neg (by omega), if_pos hge, if_neg (by omega)]
          · have : (X.getD (k - 200) []).flatMap ptc = [] := by rw [show X.getD (k - 200) [] = [] from by rw [List.getD_eq_getElem?_getD, List.getElem?_eq_none_iff.2 hj]; rfl]; rfl
            rw [jC.ro (by simp)]
            exact ⟨rfl, .inl this, fun i u hu => by rw [this] at hu; simp at hu⟩
    refine ⟨by simp; omega, rfl, fun t u hu => ?_, ⟨fun k hk => ?_, fun k b hk => (live k b hk).2, fun k1 k2 b1 b2 sp1 sp2 hne h1 _ ho => ?_⟩, FrameOk.refl _ _, fun k b sp hk ho hsp => ?_, fun k hk => ?_⟩
    · obtain ⟨j, h1, h2⟩ := uR (vZ hu)
      obtain ⟨x, h3, h4⟩ := ha' j u h2
      have : t = j := by omega
      subst this
      refine ⟨x, ?_, h4.congr (ha.mem (List.mem_of_getElem? h2)) (fun k hk => by rw [hk]; exact h10.symm)⟩
      obtain ⟨hj, _⟩ := Array.getElem?_eq_some_iff.1 h3
      rw [Array.getElem?_append_left hj]; exact h3
    · rcases Nat.lt_or_ge k 200 with hlt | hge
      · rw [vE hlt] at hk
        show (if k = 0 then _ else if 200 ≤ k then _ else none) = none
        rw [if_neg (fun e => by subst e; cases hk), if_neg (by omega)]
      · rw [vV hge] at hk; cases hk
    · rw [(live k1 b1 h1).1] at ho; cases ho
    · rw [(live k b hk).1] at ho; cases ho
    · have : k = 0 := by have h1 : k < 1 := hk; omega
      subst this
      obtain ⟨sp, hs⟩ := hlow 0 (by omega)
      exact ⟨sp, hs, hs⟩
  refine wp_mono (h w (jX ρ (famP TH TP X)) ρ ρ1 _ w hrel) ?_
  rintro e a' w' ⟨ρ2, S1, ⟨he, vs, hvs, rfl, hpost⟩, hr⟩
  obtain ⟨vs', r1, r2, r3⟩ := bA (P := P) hr hvs
  have hres : (results fn a'.tmps).run P w' = .ok (if h : vs'.toArray.size = 1 then vs'.toArray[0] else .tuple vs'.toArray) w' := by
    rw [bZ]
    rw [show fn.results = fn.results.toList.toArray from rfl]
    simp only [Sem.run_bind]
    rw [List.mapM_toArray]
    simp only [Sem.run_map]
    rw [r1]
    rfl
  have fin : ∃ v', (results fn a'.tmps).run P w' = .ok v' w' ∧ ∃ v'' ρ', Ending.returned v' = .returned v'' ∧ VRel ρ' (fV vs) v'' ∧ (∀ k, k < 1 + X.length → ρ' k = ρ k) ∧ HOkL ρ' w' [] ∧
      (∀ k b sp, 1 + X.length ≤ k → (k, b) ∈ ([] : List (Nat × Blk)) → ρ' k = some sp → w.heap.size ≤ sp.block ∨ jX ρ (famP TH TP X) sp.block) ∧ FrameOk w (jX ρ (famP TH TP X)) w' := by
    refine ⟨_, hres, _, ρ, rfl, ?_, fun _ _ => rfl, ⟨fun _ _ hk => (List.not_mem_nil hk).elim, fun _ _ _ _ _ _ _ hk => (List.not_mem_nil hk).elim⟩, fun _ _ _ _ hk => (List.not_mem_nil hk).elim, hr.frame⟩
    have q := cQ r2 r3
    have o := qT (p := fun _ => False) hv
    rw [q.eq_of_only o]; exact .of_only o
  rcases he with rfl | rfl
  · obtain ⟨v', h1, h2⟩ := fin
    exact ⟨hr.defers, v', h1, h2⟩
  · obtain ⟨v', h1, h2⟩ := fin
    exact ⟨hr.defers, v', h1, h2⟩
section
variable {C : Ctx} {P : Program} {ops : Array Oper} {i : Nat} {S : St}
/-- A call that only reads the blocks handed over, and whose value is flat: σ turns the callee's names into the caller's, not one to one. -/
theorem uD {x : Operand} {ars : Array Operand} {ats : Array TypeId} {g m : Nat} {firsts caps : Array Value} {vs args0 : List Value} {pre0 : List (Nat × Blk)} {v : Value} (σ : Nat → Nat) (reads : List Nat)
    (hs : qZ ops S i = some (.call ⟨.value x, ars, ats⟩, true)) (hf : ev S x = some (.func (.func g) firsts caps)) (hargs : evs S ars.toList = some vs) (hg : wJ P g = true)
    (ac : AC P g m args0 pre0 v []) (hv : flatB v = true) (ha : RenL σ (· < m) args0 (firsts.toList ++ vs ++ caps.toList)) (hro : ∀ k b, (k, b) ∈ pre0 → k < m ∧ b.own = false) (hlow : ∀ j, j < m → ∃ b, (j, b) ∈ pre0)
    (hH : ∀ j b0, (j, b0) ∈ pre0 → σ j ∈ reads ∧ ∃ b, S.H (σ j) = .live b ∧ b.step = b0.step ∧ RenL σ (· < m) b0.cells b.cells) :
    Does C P ops i S ⟨reads, v, []⟩ := by
  intro o ho hd S' ρ a w K Q hT hH' hr hK
  obtain ⟨hop, hg0⟩ := y6 hs ho
  have hg' : guardOf ops S' o = some true := by rw [yD hT]; exact hg0
  have hw := vW hr hg'
  have hevx : ev S' x = some (.func (.func g) firsts caps) := by rw [x8 hT (by rw [hop]; simp [Op.operands, Call.operands])]; exact hf
  have hevs : evs S' ars.toList = some vs := by rw [wD (fun y hy => x8 hT (by rw [hop]; simp [Op.operands, Call.operands]; exact .inr (by simpa using hy)))]; exact hargs
  have hHS : ∀ j b0, (j, b0) ∈ pre0 → ∃ b, S'.H (σ j) = .live b ∧ b.step = b0.step ∧ RenL σ (· < m) b0.cells b.cells := fun j b0 hj => by
    obtain ⟨h1, b, h2, h3⟩ := hH j b0 hj
    exact ⟨b, by rw [hH' _ h1]; exact h2, h3⟩
  have hfx := jM hr hevx
  obtain ⟨ea1, ea2⟩ := wT hr hevs
  generalize hax : a.eval x = ax at hfx
  cases hfx with
  | func _ _ ys _ ds e1 v1 e2 v2 =>
    unfold wpOp
    simp only [ho, hw, if_true]
    refine .inl ?_
    unfold Oper.wp
    have hex : (execOp a.eval o).run P w = .ok (.enter g ((ys ++ (ars.map a.eval)) ++ ds)) w := by
      unfold wJ at hg
      split at hg
      · rename_i fn hfn
        rw [Bool.and_eq_true] at hg
        have n1 : (fn.name == "runtime.NumGoroutine") = false := by simpa using hg.1
        have n2 : fn.body.isNone = false := by cases hb : fn.body with | none => rw [hb] at hg; simp at hg | some _ => rfl
        simp only [execOp, hop, resolve, hax, Deferred.ofValue, Sem.run_bind, Sem.run_pure, Result.andThen_ok, invoke, callFunc, run_program, hfn, n1, n2, Bool.false_eq_true, if_false]
      · cases hg
    rw [hex]
    simp only [Oper.upon]
    let ρ0 : Ren := fun j => bif Nat.blt j m then ρ (σ j) else none
    have hρ0 : ∀ j, j < m → ρ0 j = ρ (σ j) := fun j hj => by simp only [ρ0, show Nat.blt j m = true from Nat.ble_eq_true_of_le hj, cond_true]
    have hall : (firsts.toList ++ vs ++ caps.toList).length = ((ys ++ ars.map a.eval) ++ ds).size ∧ ∀ (j : Nat) (u : Value), (firsts.toList ++ vs ++ caps.toList)[j]? = some u → ∃ z, ((ys ++ ars.map a.eval) ++ ds)[j]? = some z ∧ VRel ρ u z := by
      have pw : ∀ (xs zs : Array Value) (e : xs.size = zs.size) (_ : ∀ i (hi : i < xs.size), VRel ρ xs[i] (zs[i]'(e ▸ hi))), ∀ (j : Nat) (u : Value), xs.toList[j]? = some u → ∃ z, zs.toList[j]? = some z ∧ VRel ρ u z := by
        intro xs zs e hv j u hu
        simp only [Array.getElem?_toList] at hu ⊢
        obtain ⟨hj, he⟩ := Array.getElem?_eq_some_iff.1 hu
        exact ⟨zs[j]'(e ▸ hj), Array.getElem?_eq_getElem (e ▸ hj), by rw [← he]; exact hv j hj⟩
      have app : ∀ (l1 l2 m1 m2 : List Value), l1.length = m1.length → (∀ (j : Nat) (u : Value), l1[j]? = some u → ∃ z, m1[j]? = some z ∧ VRel ρ u z) →
          (∀ (j : Nat) (u : Value), l2[j]? = some u → ∃ z, m2[j]? = some z ∧ VRel ρ u z) → ∀ (j : Nat) (u : Value), (l1 ++ l2)[j]? = some u → ∃ z, (m1 ++ m2)[j]? = some z ∧ VRel ρ u z := by
        intro l1 l2 m1 m2 hl h1 h2 j u hu
        rcases Nat.lt_or_ge j l1.length with hlt | hge
        · rw [List.getElem?_append_left hlt] at hu
          rw [List.getElem?_append_left (by omega)]; exact h1 j u hu
        · rw [List.getElem?_append_right hge] at hu
          rw [List.getElem?_append_right (by omega), ← hl]; exact h2 _ u hu
      have ea2' : ∀ (j : Nat) (u : Value), vs[j]? = some u → ∃ z, (ars.map a.eval).toList[j]? = some z ∧ VRel ρ u z := fun j u hu => by simpa using ea2 j u hu
      refine ⟨by simp at ea1 ⊢; omega, fun j u hu => ?_⟩
      have := app (firsts.toList ++ vs) caps.toList ((ys ++ ars.map a.eval).toList) ds.toList (by simp at ea1 ⊢; omega)
        (by rw [Array.toList_append]; exact app firsts.toList vs ys.toList (ars.map a.eval).toList (by simpa using e1) (pw firsts ys e1 v1) ea2') (pw caps ds e2 v2) j u hu
      rw [← Array.getElem?_toList, Array.toList_append]; exact this
    have hno : ∀ b, ¬ jX ρ0 pre0 b := by
      rintro b ⟨k, b0, sp, hm, ho', _⟩
      rw [(hro k b0 hm).2] at ho'; cases ho'
    have hcall := ac ρ0 w ((ys ++ ars.map a.eval) ++ ds) (by rw [ha.1]; exact hall.1) (fun j u hu => by
        obtain ⟨hj, _⟩ := List.getElem?_eq_some_iff.1 hu
        have hj' : j < (firsts.toList ++ vs ++ caps.toList).length := by have := ha.1; omega
        obtain ⟨z, h1, h2⟩ := hall.2 j _ (List.getElem?_eq_getElem hj')
        exact ⟨z, h1, (ha.2 j u _ hu (List.getElem?_eq_getElem hj')).into (fun q hq => hρ0 q hq) h2⟩)
      ⟨fun j b0 hj => by
          obtain ⟨b, hm, hst, hb⟩ := hHS j b0 hj
          obtain ⟨sp, h1, h2⟩ := hr.heap.live (σ j) b hm
          refine ⟨sp, by rw [hρ0 j (hro j b0 hj).1]; exact h1, ?_⟩
          have h3 : jC ρ w sp ⟨b.cells, b0.elem, false, b.step⟩ := by
            have := h2.lend
            rw [jC.ro (by simp)] at this ⊢
            exact this
          exact RenB.into (b0 := b0) (b := ⟨b.cells, b0.elem, false, b.step⟩) (fun q hq => hρ0 q hq) ⟨rfl, (hro j b0 hj).2.symm, hst, hb⟩ h3,
        fun j j' b0 b0' sp sp' hne hj hj' ho' _ _ _ => by rw [(hro j b0 hj).2] at ho'; cases ho'⟩
      (fun j hj => by
        obtain ⟨b0, hb0⟩ := hlow j hj
        obtain ⟨b, hm, _⟩ := hHS j b0 hb0
        obtain ⟨sp, h1, _⟩ := hr.heap.live (σ j) b hm
        exact ⟨sp, by rw [hρ0 _ hj]; exact h1⟩)
      (fun j hj => by simp only [ρ0, show Nat.blt j m = false from by cases hb : Nat.blt j m with | false => rfl | true => have := gB hb; omega, cond_false])
    refine Calls.mono hcall ?_
    rintro e w' ⟨v', ρ1, rfl, hv', _, _, _, hfr⟩
    have o1 := qT (p := fun _ => False) hv
    have ev := hv'.eq_of_only o1
    subst ev
    have hrel : Rel C ρ S' a w' := by
      have blk : ∀ k, k < w.heap.size → w'.heap[k]? = w.heap[k]? := fun k hk => hfr.block k hk (hno k)
      refine ⟨hr.size, hr.defers, hr.temps, ⟨hr.heap.fresh, fun k b hk => ?_, hr.heap.apart⟩, ⟨hfr.os.trans hr.frame.os, hfr.tape.trans hr.frame.tape, hfr.output.trans hr.frame.output, Nat.le_trans hr.frame.size hfr.size, fun b hb hW => ?_⟩, hr.owned, hr.pin⟩
      · obtain ⟨sp, e1, e2⟩ := hr.heap.live k b hk
        exact ⟨sp, e1, e2.same (fun nv => blk _ (e2.lt nv))⟩
      · rw [blk b (by have := hr.frame.size; omega)]; exact hr.frame.block b hb hW
    exact hK ρ _ _ (Rel.put hrel hd (.of_only o1))
/-- the callee's names in a call with a slice of slices -/
def famS (kh : Nat) (nm : Nat → Nat) : Nat → Nat
  | 0 => kh
  | j + 1 => nm j
theorem hds_ren {kh m : Nat} {nm : Nat → Nat} {X : List Row} (hm : X.length < m) : RenL (famS kh nm) (· < m) (hds (· + 1) X) (hds nm X) :=
  ⟨by simp [hds], fun j u x hu hx => by
    rw [hds_get] at hu hx
    split at hu
    · rename_i hj
      rw [if_pos hj] at hx
      cases hu; cases hx
      exact .slice (j + 1) 0 _ 0 0 (by omega)
    · cases hu⟩
theorem wF (kh : Nat) (nm : Nat → Nat) {X : List Row} {TH TP : TypeId} {g : Nat} {args0 : List Value} {v : Value} {n : Nat} (ars : Array Operand) (ats : Array TypeId) (vs : List Value) (ac : AC P g (1 + n) args0 (famP TH TP X) v [])
    (hH : ∃ e o, S.H kh = .live ⟨hds nm X, e, o, 1⟩) (hR : ∀ j, j < X.length → ∃ e o, S.H (nm j) = .live ⟨(X.getD j []).flatMap ptc, e, o, 2⟩) (ha : RenL (famS kh nm) (· < 1 + n) args0 vs) (hn : n = X.length := by rfl)
    (hs : qZ ops S i = some (.call ⟨.value (.func g), ars, ats⟩, true) := by kernel_rfl) (hf : ev S (.func g) = some (.func (.func g) #[] #[]) := by kernel_rfl) (hargs : evs S ars.toList = some vs := by kernel_rfl) (hg : wJ P g = true := by kernel_rfl) (hv : flatB v = true := by kernel_rfl) :
    Does C P ops i S ⟨kh :: (List.range X.length).map nm, v, []⟩ := by
  subst hn
  refine uD (firsts := #[]) (caps := #[]) (famS kh nm) _ hs hf hargs hg ac hv (by simpa using ha) (fun k b hk => ⟨?_, nT hk⟩) (fun j hj => ?_) (fun j b0 hj => ?_)
  · rcases bK hk with ⟨rfl, _⟩ | ⟨j, h1, rfl, _⟩ <;> omega
  · cases j with
    | zero => exact ⟨_, qBD⟩
    | succ j => exact ⟨_, qBC (by omega)⟩
  · rcases bK hj with ⟨rfl, rfl⟩ | ⟨q, h1, rfl, rfl⟩
    · obtain ⟨e, o, h⟩ := hH
      exact ⟨List.mem_cons_self, _, h, rfl, hds_ren (by omega)⟩
    · obtain ⟨e, o, h⟩ := hR q h1
      exact ⟨List.mem_cons_of_mem _ (List.mem_map.2 ⟨q, List.mem_range.2 h1, rfl⟩), _, h, rfl, .flats (qA _)⟩
def RoL : List (Nat × Blk) → Prop
  | [] => True
  | (_, b) :: l => (b.own = false ∧ b.cells.all flatB = true) ∧ RoL l
theorem RoL.mem {L : List (Nat × Blk)} (h : RoL L) {x : Nat × Blk} (hm : x ∈ L) : x.2.own = false ∧ x.2.cells.all flatB = true := by
  induction L with
  | nil => cases hm
  | cons y l ih =>
    cases hm with
    | head => exact h.1
    | tail _ hm => exact ih h.2 hm
/-- blocks that are only read, some of them twice: the callee's pre0 -/
theorem yJ (sl : List Nat) {g m : Nat} {args0 : List Value} {pre0 : List (Nat × Blk)} {v : Value} (ars : Array Operand) (ats : Array TypeId) (vs : List Value) (os : List (TypeId × Bool)) (ac : AC P g m args0 pre0 v [])
    (ha : RenL (fun j => sl.getD j 0) (· < m) args0 vs) (hfl : RoL pre0)
    (hH : pre0.map (fun x => S.H (sl.getD x.1 0)) = (pre0.zip os).map (fun x => .live ⟨x.1.2.cells, x.2.1, x.2.2, x.1.2.step⟩) := by kernel_rfl) (hm : pre0.map (·.1) = List.range m := by kernel_rfl) (hsl : Nat.beq sl.length m = true := by kernel_rfl)
    (hs : qZ ops S i = some (.call ⟨.value (.func g), ars, ats⟩, true) := by kernel_rfl) (hf : ev S (.func g) = some (.func (.func g) #[] #[]) := by kernel_rfl) (hargs : evs S ars.toList = some vs := by kernel_rfl) (hg : wJ P g = true := by kernel_rfl) (hv : flatB v = true := by kernel_rfl) :
    Does C P ops i S ⟨sl, v, []⟩ := by
  have key : ∀ j b0, (j, b0) ∈ pre0 → j < m := fun j b0 hj => by
    have : j ∈ List.range m := by rw [← hm]; exact List.mem_map.2 ⟨_, hj, rfl⟩
    exact List.mem_range.1 this
  refine uD (firsts := #[]) (caps := #[]) (fun j => sl.getD j 0) _ hs hf hargs hg ac hv (by simpa using ha) (fun k b hk => ⟨key k b hk, (hfl.mem hk).1⟩) (fun j hj => ?_) (fun j b0 hj => ⟨?_, ?_⟩)
  · have : j ∈ pre0.map (·.1) := by rw [hm]; exact List.mem_range.2 hj
    obtain ⟨x, h1, h2⟩ := List.mem_map.1 this
    exact ⟨x.2, by rw [← h2]; exact h1⟩
  · have h1 := key j b0 hj
    have h2 := Nat.eq_of_beq_eq_true hsl
    show sl.getD j 0 ∈ sl
    rw [List.getD_eq_getElem?_getD, List.getElem?_eq_getElem (by omega)]
    exact List.getElem_mem _
  · obtain ⟨q, hq, he⟩ := List.getElem_of_mem hj
    have h3 := congrArg (fun l => l[q]?) hH
    simp only [List.getElem?_map] at h3
    rw [List.getElem?_eq_getElem hq, he] at h3
    simp only [Option.map_some] at h3
    cases hz : (pre0.zip os)[q]? with
    | none => rw [hz] at h3; cases h3
    | some z =>
      rw [hz] at h3
      simp only [Option.map_some, Option.some.injEq] at h3
      have hz1 : z.1 = (j, b0) := by
        rw [List.getElem?_zip_eq_some] at hz
        have := hz.1
        rw [List.getElem?_eq_getElem hq, he] at this
        exact (Option.some.inj this).symm
      rw [hz1] at h3
      exact ⟨_, h3, rfl, .flats (hfl.mem hj).2⟩
/-- blocks that are only read, some of them twice: the callee's pre0 -/
theorem does_roC (sl : List Nat) (x : Operand) (caps : Array Value) {g m : Nat} {args0 : List Value} {pre0 : List (Nat × Blk)} {v : Value} (ars : Array Operand) (ats : Array TypeId) (vs : List Value) (os : List (TypeId × Bool)) (ac : AC P g m args0 pre0 v [])
    (ha : RenL (fun j => sl.getD j 0) (· < m) args0 (vs ++ caps.toList)) (hfl : RoL pre0)
    (hH : pre0.map (fun x => S.H (sl.getD x.1 0)) = (pre0.zip os).map (fun x => .live ⟨x.1.2.cells, x.2.1, x.2.2, x.1.2.step⟩) := by kernel_rfl) (hm : pre0.map (·.1) = List.range m := by kernel_rfl) (hsl : Nat.beq sl.length m = true := by kernel_rfl)
    (hs : qZ ops S i = some (.call ⟨.value x, ars, ats⟩, true) := by kernel_rfl) (hf : ev S x = some (.func (.func g) #[] caps) := by kernel_rfl) (hargs : evs S ars.toList = some vs := by kernel_rfl) (hg : wJ P g = true := by kernel_rfl) (hv : flatB v = true := by kernel_rfl) :
    Does C P ops i S ⟨sl, v, []⟩ := by
  have key : ∀ j b0, (j, b0) ∈ pre0 → j < m := fun j b0 hj => by
    have : j ∈ List.range m := by rw [← hm]; exact List.mem_map.2 ⟨_, hj, rfl⟩
    exact List.mem_range.1 this
  refine uD (firsts := #[]) (caps := caps) (fun j => sl.getD j 0) _ hs hf hargs hg ac hv (by simpa using ha) (fun k b hk => ⟨key k b hk, (hfl.mem hk).1⟩) (fun j hj => ?_) (fun j b0 hj => ⟨?_, ?_⟩)
  · have : j ∈ pre0.map (·.1) := by rw [hm]; exact List.mem_range.2 hj
    obtain ⟨x, h1, h2⟩ := List.mem_map.1 this
    exact ⟨x.2, by rw [← h2]; exact h1⟩
  · have h1 := key j b0 hj
    have h2 := Nat.eq_of_beq_eq_true hsl
    show sl.getD j 0 ∈ sl
    rw [List.getD_eq_getElem?_getD, List.getElem?_eq_getElem (by omega)]
    exact List.getElem_mem _
  · obtain ⟨q, hq, he⟩ := List.getElem_of_mem hj
    have h3 := congrArg (fun l => l[q]?) hH
    simp only [List.getElem?_map] at h3
    rw [List.getElem?_eq_getElem hq, he] at h3
    simp only [Option.map_some] at h3
    cases hz : (pre0.zip os)[q]? with
    | none => rw [hz] at h3; cases h3
    | some z =>
      rw [hz] at h3
      simp only [Option.map_some, Option.some.injEq] at h3
      have hz1 : z.1 = (j, b0) := by
        rw [List.getElem?_zip_eq_some] at hz
        have := hz.1
        rw [List.getElem?_eq_getElem hq, he] at this
        exact (Option.some.inj this).symm
      rw [hz1] at h3
      exact ⟨_, h3, rfl, .flats (hfl.mem hj).2⟩
end
open Go Go.Proofs
theorem al_wFh {C : Ctx} {P : Program} {c : Code} {S : St} {Q : Exit → St → Prop} {T : List (Nat × Value)} {L : List (Nat × Blk)} {G : Nat → Cell} (h : AL C P c (mkF C.m T L G) Q) (cL : ClF C.m (L.map (·.1)) L) (fG : u5 G) (hT : T.map (fun x => S.T x.1) = T.map (fun x => some x.2) := by kernel_rfl)
    (hL : L.map (fun x => S.H x.1) = L.map (fun x => .live x.2) := by kernel_rfl) (hG : ∀ j, S.H (j + 200) = G (j + 200) := by intro j; kernel_rfl) (cT : (T.all fun x => wM C.m (L.map (·.1)) x.2) = true := by kernel_rfl) : AL C P c S Q := al_wF T L G cL fG h hT hL hG cT
theorem yW {C : Ctx} {P : Program} {c : Code} {S : St} {Q : Exit → St → Prop} {T : List (Nat × Value)} {L : List (Nat × Blk)} {G : Nat → Cell} (h : AW C P c (mkF C.m T L G) Q) (cL : ClF C.m (L.map (·.1)) L) (fG : u5 G) (hT : T.map (fun x => S.T x.1) = T.map (fun x => some x.2) := by kernel_rfl)
    (hL : L.map (fun x => S.H x.1) = L.map (fun x => .live x.2) := by kernel_rfl) (hG : ∀ j, S.H (j + 200) = G (j + 200) := by intro j; kernel_rfl) (cT : (T.all fun x => wM C.m (L.map (·.1)) x.2) = true := by kernel_rfl) : AW C P c S Q := wX T L G cL fG h hT hL hG cT
/-- The state is told anew, with new names. -/
theorem weakG {C : Ctx} {S : St} {T T0 : List (Nat × Value)} {L : List (Nat × Blk)} {G : Nat → Cell} (σ : Nat → Nat) (p : Nat → Prop) (hm : C.m ≤ 200) (hT0 : AllT S T0) (rT : RenT σ p T T0)
    (hL : ∀ k b, (k, b) ∈ L → p k ∧ ∃ b0, S.H (σ k) = .live b0 ∧ RenW σ p b b0) (hpL : ∀ k, k < 200 → p k → k < C.m ∨ k ∈ L.map (·.1))
    (hG : ∀ k b, 200 ≤ k → G k = .live b → p k ∧ ∃ b0, S.H (σ k) = .live b0 ∧ RenW σ p b b0) (hGf : ∀ k, 200 ≤ k → G k = .fresh → ¬ p k)
    (hI : ∀ k k' b b', k ≠ k' → p k → p k' → (mkF C.m T L G).H k = .live b → (mkF C.m T L G).H k' = .live b' → b.own = true → ¬ Void b' → σ k ≠ σ k') (hP : ∀ k, k < C.m → p k ∧ σ k = k) : Weak C S (mkF C.m T L G) := by
  have key : ∀ k b, (mkF C.m T L G).H k = .live b → p k ∧ ∃ b0, S.H (σ k) = .live b0 ∧ RenW σ p b b0 := fun k b hk => by
    rcases Nat.lt_or_ge k 200 with hlt | hge
    · rw [vE hlt] at hk
      exact hL k b (jY (gL _ _) hk)
    · rw [vV hge] at hk
      exact hG k b hge hk
  refine w6 σ p (fun _ => none) (fun t v hv => ?_) (fun k hk => .inl ⟨fun hp => ?_, rfl⟩) (fun k b hk => .inl (key k b hk)) (fun k k' b b' hne h1 h2 ho nv => hI k k' b b' hne (key k b h1).1 (key k' b' h2).1 h1 h2 ho nv) hP
  · obtain ⟨v0, m0, r0⟩ := rT.left (vZ hv)
    exact ⟨v0, hT0.mem m0, r0⟩
  · rcases Nat.lt_or_ge k 200 with hlt | hge
    · rw [vE hlt] at hk
      by_cases hmem : k ∈ L.map (·.1)
      · obtain ⟨b, hb'⟩ := xF (d := base C.m k) hmem
        rw [hb'] at hk; cases hk
      · rw [v7 hmem] at hk
        rcases hpL k hlt hp with h | h
        · unfold base at hk; rw [show Nat.blt k C.m = true from Nat.ble_eq_true_of_le h] at hk; cases hk
        · exact hmem h
    · rw [vV hge] at hk; exact hGf k hge hk hp
def nA (j : Nat) : Nat := 2 * j + 200
def nB (j : Nat) : Nat := 2 * j + 201
/-- row i has the number q -/
def n7 (q i j : Nat) : Nat := if j = i then q else nB j
def fam2 (TP : TypeId) (X : List Row) (B : Nat → Cell) : Nat → Cell := fun k => if k % 2 = 0 then .live ⟨(X.getD ((k - 200) / 2) []).flatMap ptc, TP, false, 2⟩ else B ((k - 201) / 2)
def ownB (TP : TypeId) (Y : List Row) : Nat → Cell := fun j => if j < Y.length then .live ⟨(Y.getD j []).flatMap ptc, TP, true, 2⟩ else .fresh
def ownX (TP : TypeId) (Y : List Row) (i : Nat) : Nat → Cell := fun j => if j = i then .gone else ownB TP Y j
theorem gG (TP : TypeId) (X : List Row) (B : Nat → Cell) (j : Nat) : fam2 TP X B (nA j) = .live ⟨(X.getD j []).flatMap ptc, TP, false, 2⟩ := by
  unfold fam2 nA
  rw [if_pos (by omega), show (2 * j + 200 - 200) / 2 = j by omega]
theorem xB (TP : TypeId) (X : List Row) (B : Nat → Cell) (j : Nat) : fam2 TP X B (nB j) = B j := by
  unfold fam2 nB
  rw [if_neg (by omega), show (2 * j + 201 - 201) / 2 = j by omega]
theorem par {k : Nat} (h : 200 ≤ k) : (∃ j, k = nA j) ∨ ∃ j, k = nB j := by
  unfold nA nB
  rcases Nat.mod_two_eq_zero_or_one k with e | e
  · exact .inl ⟨(k - 200) / 2, by omega⟩
  · exact .inr ⟨(k - 201) / 2, by omega⟩
theorem j1 (j : Nat) : 200 ≤ nA j := by unfold nA; omega
theorem j5 (j : Nat) : 200 ≤ nB j := by unfold nB; omega
theorem sU (i j : Nat) : nA i ≠ nB j := by unfold nA nB; omega
theorem nA_inj {i j : Nat} (h : nA i = nA j) : i = j := by unfold nA at h; omega
theorem fP {i j : Nat} (h : nB i = nB j) : i = j := by unfold nB at h; omega
def FlatB (B : Nat → Cell) : Prop := ∀ j b, B j = .live b → ∀ v, v ∈ b.cells → Only (fun _ => False) v
theorem gU (TP : TypeId) (Y : List Row) : FlatB (ownB TP Y) := fun j b h v hv => by
  unfold ownB at h
  split at h
  · simp only [Cell.live.injEq] at h
    subst h
    exact qT (List.all_eq_true.1 (qA _) v hv)
  · cases h
theorem gT (TP : TypeId) (Y : List Row) (i : Nat) : FlatB (ownX TP Y i) := fun j b h v hv => by
  unfold ownX at h
  split at h
  · cases h
  · exact gU TP Y j b h v hv
theorem jH {TP : TypeId} {X : List Row} {B : Nat → Cell} (h : FlatB B) : u5 (fam2 TP X B) := fun k b hk v hv => by
  unfold fam2 at hk
  split at hk
  · simp only [Cell.live.injEq] at hk
    subst hk
    exact qT (List.all_eq_true.1 (qA _) v hv)
  · exact h _ b hk v hv
theorem jL {nm : Nat → Nat} (h : ∀ j, 200 ≤ nm j) (m : Nat) (ks : List Nat) (X : List Row) : (hds nm X).all (wM m ks) = true := by
  rw [List.all_eq_true]
  intro v hv
  obtain ⟨j, _, rfl⟩ := List.mem_map.1 hv
  show (Nat.blt (nm j) m || ks.any (Nat.beq (nm j)) || Nat.ble 200 (nm j)) = true
  rw [Nat.ble_eq_true_of_le (h j)]; simp
theorem x4 {q i m : Nat} {ks : List Nat} (h : ks.any (Nat.beq q) = true) (X : List Row) : (hds (n7 q i) X).all (wM m ks) = true := by
  rw [List.all_eq_true]
  intro v hv
  obtain ⟨j, _, rfl⟩ := List.mem_map.1 hv
  show (Nat.blt (n7 q i j) m || ks.any (Nat.beq (n7 q i j)) || Nat.ble 200 (n7 q i j)) = true
  unfold n7
  split
  · rw [h]; simp
  · rw [Nat.ble_eq_true_of_le (j5 j)]; simp
/-- the slices of the first i rows -/
def hdc (nm : Nat → Nat) (X : List Row) (i : Nat) : List Value := (List.range X.length).map fun j => if j < i then hdv nm X j else .slice none 0 0
theorem hdc_len (nm : Nat → Nat) (X : List Row) (i : Nat) : (hdc nm X i).length = X.length := by simp [hdc]
theorem hdc_get {nm : Nat → Nat} {X : List Row} {i j : Nat} : (hdc nm X i)[j]? = if j < X.length then some (if j < i then hdv nm X j else .slice none 0 0) else none := by
  unfold hdc
  rw [List.getElem?_map]
  split
  · rename_i h; rw [List.getElem?_range h]; rfl
  · rename_i h; rw [List.getElem?_eq_none_iff.2 (by simpa using h)]; rfl
theorem hdc_full (nm : Nat → Nat) (X : List Row) : hdc nm X X.length = hds nm X := by
  unfold hdc hds
  apply List.map_congr_left
  intro j hj
  rw [if_pos (List.mem_range.1 hj)]
theorem hdc_0 (nm : Nat → Nat) (X : List Row) : hdc nm X 0 = List.replicate X.length (.slice none 0 0) := by
  apply List.ext_getElem?
  intro j
  rw [hdc_get]
  split
  · rename_i h; rw [if_neg (by omega), List.getElem?_replicate, if_pos h]
  · rename_i h; rw [List.getElem?_replicate, if_neg h]
theorem hdc_cl {nm : Nat → Nat} (h : ∀ j, 200 ≤ nm j) (m : Nat) (ks : List Nat) (X : List Row) (i : Nat) : (hdc nm X i).all (wM m ks) = true := by
  rw [List.all_eq_true]
  intro v hv
  obtain ⟨j, _, rfl⟩ := List.mem_map.1 hv
  split
  · show (Nat.blt (nm j) m || ks.any (Nat.beq (nm j)) || Nat.ble 200 (nm j)) = true
    rw [Nat.ble_eq_true_of_le (h j)]; simp
  · rfl
theorem made_nils (n : Nat) : (madeCells (Value.slice none 0 0).cells (n * 1)).toList = List.replicate n (.slice none 0 0) := by
  unfold madeCells
  rw [Nat.mul_one, Array.toList_map, Array.toList_range]
  apply List.ext_getElem
  · simp
  · intro i h1 h2
    simp [Value.cells, Nat.mod_one]
theorem flat_nils (n : Nat) : (List.replicate n (Value.slice none 0 0)).all flatB = true := by
  rw [List.all_eq_true]
  intro v hv
  rw [List.eq_of_mem_replicate hv]; rfl
/-- a row that is only read gets a second name -/
theorem qDA {C : Ctx} {S : St} {T T0 : List (Nat × Value)} {L L' : List (Nat × Blk)} {G : Nat → Cell} (k nm : Nat) (b : Blk) (hm : C.m ≤ 200) (hT0 : AllT S T0) (hL : AllH S L) (hG : ∀ q, 200 ≤ q → S.H q = G q)
    (hb : S.H nm = .live b) (ho : b.own = false) (hf : ∀ v, v ∈ b.cells → Only (fun _ => False) v) (hk : C.m ≤ k ∧ k < 200) (hkL : k ∉ L.map (·.1)) (hL' : ∀ q c, (q, c) ∈ L' → (q = k ∧ c = b) ∨ (q, c) ∈ L) (hk' : ∀ q, q = k ∨ q ∈ L.map (·.1) → q ∈ L'.map (·.1))
    (rT : RenT (fun q => if q = k then nm else q) (fun q => q = k ∨ q < C.m ∨ q ∈ L.map (·.1) ∨ 200 ≤ q) T T0) (cL : ClF C.m (L.map (·.1)) L) (fG : u5 G) : Weak C S (mkF C.m T L' G) := by
  have hbn : ∀ q, q ≠ k → (if q = k then nm else q) = q := fun q h => if_neg h
  refine w6 (fun q => if q = k then nm else q) (fun q => q = k ∨ q < C.m ∨ q ∈ L.map (·.1) ∨ 200 ≤ q) (fun _ => none) (fun t v hv => ?_) (fun q hq => ?_) (fun q c hq => .inl ?_) (fun q q' c c' hne h1 h2 ho' nv => ?_) (fun q hq => ⟨.inr (.inl hq), hbn q (by omega)⟩)
  · obtain ⟨v0, m0, r0⟩ := rT.left (vZ hv)
    exact ⟨v0, hT0.mem m0, r0⟩
  · rcases Nat.lt_or_ge q 200 with hlt | hge
    · rw [vE hlt] at hq
      refine .inl ⟨fun hp => ?_, rfl⟩
      by_cases hmem : q ∈ L'.map (·.1)
      · obtain ⟨b', hb'⟩ := xF (d := base C.m q) hmem
        rw [hb'] at hq; cases hq
      · rw [v7 hmem] at hq
        rcases hp with h | h | h | h
        · exact hmem (hk' q (.inl h))
        · unfold base at hq; rw [show Nat.blt q C.m = true from Nat.ble_eq_true_of_le h] at hq; cases hq
        · exact hmem (hk' q (.inr h))
        · omega
    · rw [vV hge] at hq
      refine .inr ⟨.inr (.inr (.inr hge)), ?_⟩
      show S.H (if q = k then nm else q) = _
      rw [hbn q (by omega), hG q hge]; exact hq
  · rcases Nat.lt_or_ge q 200 with hlt | hge
    · rw [vE hlt] at hq
      rcases hL' q c (jY (gL _ _) hq) with ⟨rfl, rfl⟩ | hmem
      · refine ⟨.inl rfl, _, by show S.H (if q = q then nm else q) = _; rw [if_pos rfl]; exact hb, rfl, id, rfl, .flat hf⟩
      · have hne : q ≠ k := fun e => hkL (by subst e; exact List.mem_map.2 ⟨_, hmem, rfl⟩)
        refine ⟨.inr (.inr (.inl (List.mem_map.2 ⟨_, hmem, rfl⟩))), c, by show S.H (if q = k then nm else q) = _; rw [if_neg hne]; exact hL.mem hmem, rfl, id, rfl, rfl, fun j u x hu hx => ?_⟩
        rw [hu] at hx; cases hx
        have o := bS (L := L) (List.all_eq_true.1 (cL.mem hmem) u (List.mem_of_getElem? hu))
        have o2 : Only (fun r => r ≠ k ∧ keyF C.m L r) u := o.mono (fun r hr => ⟨fun e => by
          subst e
          rcases hr with hr | hr
          · unfold keyB at hr
            rw [Bool.or_eq_true] at hr
            rcases hr with hr | hr
            · have := gB hr; omega
            · exact hkL (any_beq.1 hr)
          · omega, hr⟩)
        clear o hu
        induction o2 with
        | bool b => exact .flat _ (.bool b)
        | int k n => exact .flat _ (.int k n)
        | string s => exact .flat _ (.string s)
        | ptr r off h =>
          have := RenV.ptr (σ := fun q => if q = k then nm else q) (p := fun q => q = k ∨ q < C.m ∨ q ∈ L.map (·.1) ∨ 200 ≤ q) r off (by
            rcases h.2 with h | h
            · unfold keyB at h; rw [Bool.or_eq_true] at h; exact h.elim (fun h => .inr (.inl (gB h))) (fun h => .inr (.inr (.inl (any_beq.1 h))))
            · exact .inr (.inr (.inr h)))
          rwa [show (if r = k then nm else r) = r from if_neg h.1] at this
        | nilPtr => exact .flat _ .nilPtr
        | nilFunc => exact .flat _ .nilFunc
        | nilIface => exact .flat _ .nilIface
        | nilSlice => exact .flat _ .nilSlice
        | slice r off len c h =>
          have := RenV.slice (σ := fun q => if q = k then nm else q) (p := fun q => q = k ∨ q < C.m ∨ q ∈ L.map (·.1) ∨ 200 ≤ q) r off len c c (by
            rcases h.2 with h | h
            · unfold keyB at h; rw [Bool.or_eq_true] at h; exact h.elim (fun h => .inr (.inl (gB h))) (fun h => .inr (.inr (.inl (any_beq.1 h))))
            · exact .inr (.inr (.inr h)))
          rwa [show (if r = k then nm else r) = r from if_neg h.1] at this
        | func fn xs cs _ _ ih ih' => exact .func fn xs xs cs cs rfl ih rfl ih'
        | agg xs _ ih => exact .agg xs xs rfl ih
        | tuple xs _ ih => exact .tuple xs xs rfl ih
    · rw [vV hge] at hq
      refine ⟨.inr (.inr (.inr hge)), c, by show S.H (if q = k then nm else q) = _; rw [hbn q (by omega), hG q hge]; exact hq, rfl, id, rfl, .flat (fG q c hq)⟩
  · have live : ∀ q c, (mkF C.m T L' G).H q = .live c → (q = k ∧ c = b) ∨ (q ≠ k ∧ S.H q = .live c) := fun q c hq => by
      rcases Nat.lt_or_ge q 200 with hlt | hge
      · rw [vE hlt] at hq
        rcases hL' q c (jY (gL _ _) hq) with h | hmem
        · exact .inl h
        · exact .inr ⟨fun e => hkL (by subst e; exact List.mem_map.2 ⟨_, hmem, rfl⟩), hL.mem hmem⟩
      · rw [vV hge] at hq
        exact .inr ⟨by omega, by rw [hG q hge]; exact hq⟩
    rcases live q c h1 with ⟨_, rfl⟩ | ⟨e1, s1⟩
    · rw [ho] at ho'; cases ho'
    · show (if q = k then nm else q) ≠ (if q' = k then nm else q')
      rw [if_neg e1]
      by_cases e2 : q' = k
      · rw [if_pos e2]
        intro e
        rw [e, hb] at s1
        cases s1
        rw [ho] at ho'; cases ho'
      · rw [if_neg e2]; exact hne
theorem RenV.fix {σ : Nat → Nat} {p q : Nat → Prop} (h : ∀ k, q k → p k ∧ σ k = k) {v : Value} (o : Only q v) : RenV σ p v v := by
  induction o with
  | bool b => exact .flat _ (.bool b)
  | int k n => exact .flat _ (.int k n)
  | string s => exact .flat _ (.string s)
  | ptr r off hr => have := RenV.ptr (σ := σ) (p := p) r off (h r hr).1; rwa [(h r hr).2] at this
  | nilPtr => exact .flat _ .nilPtr
  | nilFunc => exact .flat _ .nilFunc
  | nilIface => exact .flat _ .nilIface
  | nilSlice => exact .flat _ .nilSlice
  | slice r off len c hr => have := RenV.slice (σ := σ) (p := p) r off len c c (h r hr).1; rwa [(h r hr).2] at this
  | func fn xs cs _ _ ih ih' => exact .func fn xs xs cs cs rfl ih rfl ih'
  | agg xs _ ih => exact .agg xs xs rfl ih
  | tuple xs _ ih => exact .tuple xs xs rfl ih
theorem RenT.fix {σ : Nat → Nat} {p : Nat → Prop} : ∀ {T : List (Nat × Value)}, (∀ t v, (t, v) ∈ T → RenV σ p v v) → RenT σ p T T
  | [], _ => trivial
  | (t, v) :: T, h => ⟨rfl, h t v List.mem_cons_self, RenT.fix fun t' v' hm => h t' v' (List.mem_cons_of_mem _ hm)⟩
/-- all names in the temporaries are below m or in ks -/
def xX (m : Nat) (ks : List Nat) (T : List (Nat × Value)) : Bool := T.all fun x => valsB m ks x.2
theorem vQ {m : Nat} {ks : List Nat} {T : List (Nat × Value)} (h : xX m ks T = true) {t : Nat} {v : Value} (hm : (t, v) ∈ T) : Only (fun k => k < m ∨ k ∈ ks) v := by
  have h1 := List.all_eq_true.1 h (t, v) hm
  have h2 : valsB m ((ks.map fun k => ((k, (⟨[], 0, false, 0⟩ : Blk)) : Nat × Blk)).map (·.1)) v = true := by
    rw [List.map_map, show ((fun x : Nat × Blk => x.1) ∘ fun k => ((k, (⟨[], 0, false, 0⟩ : Blk)) : Nat × Blk)) = id from rfl, List.map_id]; exact h1
  refine (bT h2).mono fun k hk => ?_
  unfold keyB at hk
  rw [Bool.or_eq_true] at hk
  refine hk.imp gB fun h => ?_
  have := any_beq.1 h
  rw [List.map_map, show ((fun x : Nat × Blk => x.1) ∘ fun k => ((k, (⟨[], 0, false, 0⟩ : Blk)) : Nat × Blk)) = id from rfl, List.map_id] at this
  exact this
theorem renW_flat {σ : Nat → Nat} {p : Nat → Prop} {ps : List (Int × Int)} {e : TypeId} {o : Bool} {s : Nat} : RenW σ p ⟨ps.flatMap ptc, e, o, s⟩ ⟨ps.flatMap ptc, e, o, s⟩ := ⟨rfl, id, rfl, .flats (qA _)⟩
theorem vC {σ : Nat → Nat} {p : Nat → Prop} {nm nm0 : Nat → Nat} {X : List Row} (h : ∀ j, j < X.length → p (nm j) ∧ σ (nm j) = nm0 j) : RenL σ p (hds nm X) (hds nm0 X) :=
  ⟨by simp [hds], fun j u x hu hx => by
    rw [hds_get] at hu hx
    split at hu
    · rename_i hj
      rw [if_pos hj] at hx
      cases hu; cases hx
      have := RenV.slice (σ := σ) (p := p) (nm j) 0 (X.getD j []).length 0 0 (h j hj).1
      rwa [(h j hj).2] at this
    · cases hu⟩
section
variable {C : Ctx} {S : St} {T : List (Nat × Value)} {X : List Row} {TH TP : TypeId}
/-- two families from one -/
theorem qE9 (hm : C.m = 1) (hT : T.map (fun x => S.T x.1) = T.map (fun x => some x.2)) (cT : xX 1 [] T = true) (h0 : S.H 0 = .live ⟨hds (· + 200) X, TH, false, 1⟩) (hG : ∀ j, S.H (j + 200) = famR TP X (j + 200)) :
    Weak C S (mkF C.m T [(0, ⟨hds nA X, TH, false, 1⟩)] (fam2 TP X (ownB TP []))) := by
  have hs : ∀ j, (if 200 ≤ nA j then (nA j - 200) / 2 + 200 else nA j) = j + 200 := fun j => by rw [if_pos (j1 j)]; unfold nA; omega
  refine weakG (fun k => if 200 ≤ k then (k - 200) / 2 + 200 else k) (fun k => k = 0 ∨ ∃ j, k = nA j) (by omega) (gM hT) (.fix fun t v hv => .fix (fun k hk => ?_) (vQ cT hv)) (fun k b hk => ?_) (fun k hk hp => ?_) (fun k b hk hb => ?_) (fun k hk hf hp => ?_) (fun k k' b b' hne hp hp' h1 h2 ho nv => ?_) (fun k hk => ?_)
  · have : k = 0 := by rcases hk with h | h; omega; exact absurd h (List.not_mem_nil)
    subst this; exact ⟨.inl rfl, rfl⟩
  · simp only [List.mem_cons, List.not_mem_nil, or_false, Prod.mk.injEq] at hk
    obtain ⟨rfl, rfl⟩ := hk
    exact ⟨.inl rfl, _, h0, rfl, id, rfl, vC fun j _ => ⟨.inr ⟨j, rfl⟩, hs j⟩⟩
  · rcases hp with h | ⟨j, h⟩
    · exact .inl (by omega)
    · have := j1 j; omega
  · rcases par hk with ⟨j, rfl⟩ | ⟨j, rfl⟩
    · rw [gG] at hb
      simp only [Cell.live.injEq] at hb
      subst hb
      refine ⟨.inr ⟨j, rfl⟩, _, by show S.H (if 200 ≤ nA j then _ else _) = _; rw [hs, hG]; unfold famR; rw [Nat.add_sub_cancel], renW_flat⟩
    · rw [xB] at hb
      unfold ownB at hb
      rw [if_neg (by simp)] at hb; cases hb
  · rcases hp with h | ⟨j, rfl⟩
    · omega
    · rw [gG] at hf; cases hf
  · rcases hp with h | ⟨j, rfl⟩
    · subst h
      rw [vE (by omega)] at h1
      have := jY (gL _ _) h1
      simp only [List.mem_cons, List.not_mem_nil, or_false, Prod.mk.injEq] at this
      rw [this.2] at ho; cases ho
    · rw [vV (j1 j), gG] at h1
      simp only [Cell.live.injEq] at h1
      subst h1; cases ho
  · have : k = 0 := by omega
    subst this; exact ⟨.inl rfl, rfl⟩
/-- what is told by the numbers 0 and K, and by the two families -/
theorem mM {K q i : Nat} {N : List Row} {B B' : Nat → Cell} {hd hd' : List Value} {L : List (Nat × Blk)} (inn : Bool) (hm : C.m = 1) (hK : 1 ≤ K ∧ K < 200) (hq : 1 ≤ q ∧ q < 200 ∧ q ≠ K) (hT : T.map (fun x => S.T x.1) = T.map (fun x => some x.2)) (cT : xX 1 [K] T = true)
    (h0 : S.H 0 = .live ⟨hds nA X, TH, false, 1⟩) (hKc : S.H K = .live ⟨hd, TH, true, 1⟩) (hG : ∀ k, 200 ≤ k → S.H k = fam2 TP X B k)
    (hL : L = (if inn = true then [(0, ⟨hds nA X, TH, false, 1⟩), (K, ⟨hd', TH, true, 1⟩), (q, ⟨(N.getD i []).flatMap ptc, TP, true, 2⟩)] else [(0, ⟨hds nA X, TH, false, 1⟩), (K, ⟨hd', TH, true, 1⟩)])) (M : Nat) (hi : i < M)
    (hB' : ∀ j b, B' j = .live b → j < M ∧ (inn = true → j ≠ i) ∧ ∃ b0, (if inn = false ∧ j = i then S.H q else B j) = .live b0 ∧ b = b0 ∧ b.cells.all flatB = true) (hBf : ∀ j, B' j = .fresh → M ≤ j) (hqi : inn = true → S.H (nB i) = .live ⟨(N.getD i []).flatMap ptc, TP, true, 2⟩)
    (hr : RenL (fun k => if inn = true then (if k = q then nB i else k) else (if k = nB i then q else k)) (fun k => k = 0 ∨ k = K ∨ (inn = true ∧ k = q) ∨ (∃ j, k = nA j) ∨ ∃ j, j < M ∧ (inn = true → j ≠ i) ∧ k = nB j) hd' hd) :
    Weak C S (mkF C.m T L (fam2 TP X B')) := by
  have sA : ∀ j, (if inn = true then (if nA j = q then nB i else nA j) else (if nA j = nB i then q else nA j)) = nA j := fun j => by
    cases inn with
    | true => rw [if_pos rfl, if_neg (by have := j1 j; omega)]
    | false => rw [if_neg (by decide), if_neg (sU j i)]
  have sB : ∀ j, j ≠ i → (if inn = true then (if nB j = q then nB i else nB j) else (if nB j = nB i then q else nB j)) = nB j := fun j hj => by
    cases inn with
    | true => rw [if_pos rfl, if_neg (by have := j5 j; omega)]
    | false => rw [if_neg (by decide), if_neg (fun e => hj (fP e))]
  have s0 : ∀ k, k < 200 → k ≠ q → (if inn = true then (if k = q then nB i else k) else (if k = nB i then q else k)) = k := fun k hk hkq => by
    cases inn with
    | true => rw [if_pos rfl, if_neg hkq]
    | false => rw [if_neg (by decide), if_neg (by have := j5 i; omega)]
  have mem0 : ∀ k b, (k, b) ∈ L → (k = 0 ∧ b = ⟨hds nA X, TH, false, 1⟩) ∨ (k = K ∧ b = ⟨hd', TH, true, 1⟩) ∨ (inn = true ∧ k = q ∧ b = ⟨(N.getD i []).flatMap ptc, TP, true, 2⟩) := fun k b hk => by
    rw [hL] at hk
    cases inn with
    | true =>
      simp only [if_true, List.mem_cons, List.not_mem_nil, or_false, Prod.mk.injEq] at hk
      rcases hk with h | h | h
      · exact .inl h
      · exact .inr (.inl h)
      · exact .inr (.inr ⟨rfl, h⟩)
    | false =>
      simp only [Bool.false_eq_true, if_false, List.mem_cons, List.not_mem_nil, or_false, Prod.mk.injEq] at hk
      rcases hk with h | h
      · exact .inl h
      · exact .inr (.inl h)
  have key0 : ∀ k, (k = 0 ∨ k = K ∨ (inn = true ∧ k = q)) → k ∈ L.map (·.1) := fun k hk => by
    rw [hL]
    cases inn with
    | true =>
      simp only [if_true, List.map_cons, List.map_nil, List.mem_cons, List.not_mem_nil, or_false]
      rcases hk with h | h | h
      · exact .inl h
      · exact .inr (.inl h)
      · exact .inr (.inr h.2)
    | false =>
      simp only [Bool.false_eq_true, if_false, List.map_cons, List.map_nil, List.mem_cons, List.not_mem_nil, or_false]
      rcases hk with h | h | h
      · exact .inl h
      · exact .inr h
      · cases h.1
  have tell : ∀ r, (r = 0 ∨ r = K ∨ (inn = true ∧ r = q) ∨ (∃ j, r = nA j) ∨ ∃ j, j < M ∧ (inn = true → j ≠ i) ∧ r = nB j) →
      ((r = 0 ∨ r = K ∨ (∃ j, r = nA j) ∨ ∃ j, j ≠ i ∧ r = nB j) ∧ (if inn = true then (if r = q then nB i else r) else (if r = nB i then q else r)) = r) ∨
      (inn = true ∧ r = q ∧ (if inn = true then (if r = q then nB i else r) else (if r = nB i then q else r)) = nB i) ∨ (inn = false ∧ r = nB i ∧ (if inn = true then (if r = q then nB i else r) else (if r = nB i then q else r)) = q) := fun r hr => by
    rcases hr with h | h | ⟨e, h⟩ | ⟨j, h⟩ | ⟨j, hj, hji, h⟩
    · exact .inl ⟨.inl h, s0 r (by omega) (by omega)⟩
    · exact .inl ⟨.inr (.inl h), s0 r (by omega) (by omega)⟩
    · exact .inr (.inl ⟨e, h, by rw [if_pos e, if_pos h]⟩)
    · exact .inl ⟨.inr (.inr (.inl ⟨j, h⟩)), by rw [h]; exact sA j⟩
    · by_cases ej : j = i
      · subst ej
        cases inn with
        | true => exact absurd rfl (hji rfl)
        | false => exact .inr (.inr ⟨rfl, h, by rw [if_neg (by decide), if_pos h]⟩)
      · exact .inl ⟨.inr (.inr (.inr ⟨j, ej, h⟩)), by rw [h]; exact sB j ej⟩
  have notq : ∀ r, (r = 0 ∨ r = K ∨ (∃ j, r = nA j) ∨ ∃ j, j ≠ i ∧ r = nB j) → r ≠ q ∧ r ≠ nB i := fun r hr => by
    have := j5 i
    rcases hr with h | h | ⟨j, h⟩ | ⟨j, hj, h⟩
    · omega
    · omega
    · have := j1 j; exact ⟨by omega, by rw [h]; exact sU j i⟩
    · have := j5 j; exact ⟨by omega, by rw [h]; exact fun e => hj (fP e)⟩
  refine weakG (fun k => if inn = true then (if k = q then nB i else k) else (if k = nB i then q else k)) (fun k => k = 0 ∨ k = K ∨ (inn = true ∧ k = q) ∨ (∃ j, k = nA j) ∨ ∃ j, j < M ∧ (inn = true → j ≠ i) ∧ k = nB j) (by omega) (gM hT) (.fix fun t v hv => .fix (fun k hk => ?_) (vQ cT hv)) (fun k b hk => ?_) (fun k hk hp => ?_) (fun k b hk hb => ?_) (fun k hk hf hp => ?_) (fun k k' b b' hne hp hp' h1 h2 ho nv => ?_) (fun k hk => ?_)
  · rcases hk with h | h
    · have : k = 0 := by omega
      subst this; exact ⟨.inl rfl, s0 0 (by omega) (by omega)⟩
    · simp only [List.mem_cons, List.not_mem_nil, or_false] at h
      subst h; exact ⟨.inr (.inl rfl), s0 k hK.2 (fun e => hq.2.2 e.symm)⟩
  · rcases mem0 k b hk with ⟨rfl, rfl⟩ | ⟨rfl, rfl⟩ | ⟨e, rfl, rfl⟩
    · exact ⟨.inl rfl, _, by show S.H (if inn = true then _ else _) = _; rw [s0 0 (by omega) (by omega)]; exact h0, rfl, id, rfl, vC fun j _ => ⟨.inr (.inr (.inr (.inl ⟨j, rfl⟩))), sA j⟩⟩
    · exact ⟨.inr (.inl rfl), ⟨hd, TH, true, 1⟩, by show S.H (if inn = true then _ else _) = _; rw [s0 k hK.2 (fun e => hq.2.2 e.symm)]; exact hKc, rfl, id, rfl, hr⟩
    · subst e
      exact ⟨.inr (.inr (.inl ⟨rfl, rfl⟩)), _, by show S.H (if true = true then (if k = k then nB i else k) else _) = _; rw [if_pos rfl, if_pos rfl]; exact hqi rfl, renW_flat⟩
  · rcases hp with h | h | h | ⟨j, h⟩ | ⟨j, _, _, h⟩
    · exact .inl (by omega)
    · exact .inr (key0 k (.inr (.inl h)))
    · exact .inr (key0 k (.inr (.inr h)))
    · have := j1 j; omega
    · have := j5 j; omega
  · rcases par hk with ⟨j, rfl⟩ | ⟨j, rfl⟩
    · rw [gG] at hb
      simp only [Cell.live.injEq] at hb
      subst hb
      exact ⟨.inr (.inr (.inr (.inl ⟨j, rfl⟩))), _, by show S.H (if inn = true then _ else _) = _; rw [sA, hG _ (j1 j), gG], renW_flat⟩
    · rw [xB] at hb
      obtain ⟨hj, hji, b0, e0, rfl, hfl⟩ := hB' j b hb
      refine ⟨.inr (.inr (.inr (.inr ⟨j, hj, hji, rfl⟩))), b, ?_, rfl, id, rfl, .flats hfl⟩
      show S.H (if inn = true then _ else _) = _
      by_cases e : j = i
      · subst e
        cases inn with
        | true => exact absurd rfl (hji rfl)
        | false => rw [if_neg (by decide), if_pos rfl]; rw [if_pos ⟨rfl, rfl⟩] at e0; exact e0
      · rw [sB j e, hG _ (j5 j), xB]
        rw [if_neg (fun h => e h.2)] at e0; exact e0
  · rcases hp with h | h | h | ⟨j, rfl⟩ | ⟨j, hj, _, rfl⟩
    · omega
    · omega
    · omega
    · rw [gG] at hf; cases hf
    · rw [xB] at hf; have := hBf j hf; omega
  · show (if inn = true then (if k = q then nB i else k) else (if k = nB i then q else k)) ≠ (if inn = true then (if k' = q then nB i else k') else (if k' = nB i then q else k'))
    rcases tell k hp with ⟨a1, e1⟩ | ⟨a1, a2, e1⟩ | ⟨a1, a2, e1⟩ <;> rcases tell k' hp' with ⟨c1, f1⟩ | ⟨c1, c2, f1⟩ | ⟨c1, c2, f1⟩ <;> rw [e1, f1]
    · exact hne
    · exact (notq k a1).2
    · exact (notq k a1).1
    · exact fun e => (notq k' c1).2 e.symm
    · exact absurd (a2.trans c2.symm) hne
    · rw [a1] at c1; cases c1
    · exact fun e => (notq k' c1).1 e.symm
    · rw [a1] at c1; cases c1
    · exact absurd (a2.trans c2.symm) hne
  · have : k = 0 := by omega
    subst this; exact ⟨.inl rfl, s0 0 (by omega) (by omega)⟩
theorem dZ {X : List Row} {i j : Nat} (h : j < i) : (X.take i).getD j [] = X.getD j [] := by
  rw [List.getD_eq_getElem?_getD, List.getElem?_take_of_lt h]; rfl
/-- one more line is copied -/
theorem qEA {K q i : Nat} (hm : C.m = 1) (hK : 1 ≤ K ∧ K < 200) (hq : 1 ≤ q ∧ q < 200 ∧ q ≠ K) (hi : i < X.length) (hT : T.map (fun x => S.T x.1) = T.map (fun x => some x.2)) (cT : xX 1 [K] T = true)
    (h0 : S.H 0 = .live ⟨hds nA X, TH, false, 1⟩) (hKc : S.H K = .live ⟨(hdc nB X i).set i (.slice (some ⟨q, 0, none⟩) (X.getD i []).length 0), TH, true, 1⟩) (hqc : S.H q = .live ⟨(X.getD i []).flatMap ptc, TP, true, 2⟩) (hG : ∀ j, S.H (j + 200) = fam2 TP X (ownB TP (X.take i)) (j + 200)) :
    Weak C S (mkF C.m T [(0, ⟨hds nA X, TH, false, 1⟩), (K, ⟨hdc nB X (i + 1), TH, true, 1⟩)] (fam2 TP X (ownB TP (X.take (i + 1))))) := by
  refine mM (N := X) (q := q) (i := i) false hm hK hq hT cT h0 hKc (rX hG) rfl (i + 1) (by omega) (fun j b hb => ?_) (fun j hj => ?_) (fun e => nomatch e) ⟨by rw [List.length_set, hdc_len, hdc_len], fun j u x hu hx => ?_⟩
  · unfold ownB at hb
    split at hb
    · rename_i hj
      rw [List.length_take] at hj
      simp only [Cell.live.injEq] at hb
      subst hb
      refine ⟨by omega, (fun e => nomatch e), _, ?_, rfl, qA _⟩
      by_cases e : j = i
      · subst e
        rw [if_pos ⟨rfl, rfl⟩, hqc, dZ (by omega)]
      · rw [if_neg (fun h => e h.2)]
        unfold ownB
        rw [if_pos (by rw [List.length_take]; omega), dZ (by omega), dZ (by omega)]
    · cases hb
  · unfold ownB at hj
    split at hj
    · cases hj
    · rename_i h; rw [List.length_take] at h; omega
  · rw [hdc_get] at hu
    split at hu
    · rename_i hj
      cases hu
      by_cases e : j = i
      · subst e
        rw [List.getElem?_set_self (by rw [hdc_len]; exact hj)] at hx
        cases hx
        rw [if_pos (by omega)]
        have := RenV.slice (σ := fun k => if false = true then (if k = q then nB j else k) else (if k = nB j then q else k)) (p := fun k => k = 0 ∨ k = K ∨ (false = true ∧ k = q) ∨ (∃ j, k = nA j) ∨ ∃ j', j' < j + 1 ∧ (false = true → j' ≠ j) ∧ k = nB j') (nB j) 0 (X.getD j []).length 0 0 (.inr (.inr (.inr (.inr ⟨j, by omega, (fun e => nomatch e), rfl⟩))))
        rwa [show (if false = true then (if nB j = q then nB j else nB j) else (if nB j = nB j then q else nB j)) = q by rw [if_neg (by decide), if_pos rfl]] at this
      · rw [List.getElem?_set_ne (fun h => e h.symm), hdc_get, if_pos hj] at hx
        cases hx
        by_cases hlt : j < i
        · rw [if_pos (by omega), if_pos hlt]
          have := RenV.slice (σ := fun k => if false = true then (if k = q then nB i else k) else (if k = nB i then q else k)) (p := fun k => k = 0 ∨ k = K ∨ (false = true ∧ k = q) ∨ (∃ j, k = nA j) ∨ ∃ j', j' < i + 1 ∧ (false = true → j' ≠ i) ∧ k = nB j') (nB j) 0 (X.getD j []).length 0 0 (.inr (.inr (.inr (.inr ⟨j, by omega, (fun e => nomatch e), rfl⟩))))
          rwa [show (if false = true then (if nB j = q then nB i else nB j) else (if nB j = nB i then q else nB j)) = nB j by rw [if_neg (by decide), if_neg (fun h => e (fP h))]] at this
        · rw [if_neg (by omega), if_neg hlt]
          exact .flat _ .nilSlice
    · cases hu
/-- row i gets a number of its own -/
theorem keep_in {K q i : Nat} {N : List Row} (hm : C.m = 1) (hK : 1 ≤ K ∧ K < 200) (hq : 1 ≤ q ∧ q < 200 ∧ q ≠ K) (hi : i < N.length) (hT : T.map (fun x => S.T x.1) = T.map (fun x => some x.2)) (cT : xX 1 [K] T = true)
    (h0 : S.H 0 = .live ⟨hds nA X, TH, false, 1⟩) (hKc : S.H K = .live ⟨hds nB N, TH, true, 1⟩) (hG : ∀ j, S.H (j + 200) = fam2 TP X (ownB TP N) (j + 200)) :
    Weak C S (mkF C.m T [(0, ⟨hds nA X, TH, false, 1⟩), (K, ⟨hds (n7 q i) N, TH, true, 1⟩), (q, ⟨(N.getD i []).flatMap ptc, TP, true, 2⟩)] (fam2 TP X (ownX TP N i))) := by
  refine mM (N := N) (q := q) (i := i) true hm hK hq hT cT h0 hKc (rX hG) (by rw [if_pos rfl]) N.length hi (fun j b hb => ?_) (fun j hj => ?_) (fun _ => ?_) (vC fun j hj => ?_)
  · unfold ownX at hb
    split at hb
    · cases hb
    · rename_i hne
      have hb0 := hb
      unfold ownB at hb
      split at hb
      · rename_i hj
        simp only [Cell.live.injEq] at hb
        subst hb
        exact ⟨hj, fun _ => hne, _, by rw [if_neg (fun h => by cases h.1)]; exact hb0, rfl, qA _⟩
      · cases hb
  · unfold ownX at hj
    split at hj
    · cases hj
    · unfold ownB at hj
      split at hj
      · cases hj
      · omega
  · rw [rX hG _ (j5 i), xB]; unfold ownB; rw [if_pos hi]
  · unfold n7
    by_cases e : j = i
    · rw [if_pos e]; subst e
      exact ⟨.inr (.inr (.inl ⟨rfl, rfl⟩)), by rw [if_pos rfl, if_pos rfl]⟩
    · rw [if_neg e]
      exact ⟨.inr (.inr (.inr (.inr ⟨j, hj, fun _ => e, rfl⟩))), by rw [if_pos rfl, if_neg (by have := j5 j; omega)]⟩
theorem yM {N : List Row} {i j : Nat} {y : Row} (hi : i < N.length) : (N.set i y).getD j [] = if i = j then y else N.getD j [] := by
  rw [List.getD_eq_getElem?_getD, List.getElem?_set]
  split
  · rename_i e; subst e; first | rfl | (rw [if_pos hi]; rfl)
  · rfl
/-- and is one of the family again -/
theorem keep_out {K q i : Nat} {N : List Row} {y : Row} (hm : C.m = 1) (hK : 1 ≤ K ∧ K < 200) (hq : 1 ≤ q ∧ q < 200 ∧ q ≠ K) (hi : i < N.length) (hT : T.map (fun x => S.T x.1) = T.map (fun x => some x.2)) (cT : xX 1 [K] T = true)
    (h0 : S.H 0 = .live ⟨hds nA X, TH, false, 1⟩) (hKc : S.H K = .live ⟨hds (n7 q i) (N.set i y), TH, true, 1⟩) (hqc : S.H q = .live ⟨y.flatMap ptc, TP, true, 2⟩) (hG : ∀ j, S.H (j + 200) = fam2 TP X (ownX TP N i) (j + 200)) :
    Weak C S (mkF C.m T [(0, ⟨hds nA X, TH, false, 1⟩), (K, ⟨hds nB (N.set i y), TH, true, 1⟩)] (fam2 TP X (ownB TP (N.set i y)))) := by
  refine mM (N := N) (q := q) (i := i) false hm hK hq hT cT h0 hKc (rX hG) rfl N.length hi (fun j b hb => ?_) (fun j hj => ?_) (fun e => nomatch e) (vC fun j hj => ?_)
  · unfold ownB at hb
    rw [List.length_set, yM hi] at hb
    split at hb
    · rename_i hj
      simp only [Cell.live.injEq] at hb
      subst hb
      refine ⟨hj, (fun e => nomatch e), _, ?_, rfl, qA _⟩
      by_cases e : j = i
      · subst e
        rw [if_pos ⟨rfl, rfl⟩, hqc, if_pos rfl]
      · rw [if_neg (fun h => e h.2), if_neg (fun h => e h.symm)]
        unfold ownX
        rw [if_neg e]
        unfold ownB
        rw [if_pos hj]
    · cases hb
  · unfold ownB at hj
    split at hj
    · cases hj
    · rename_i h; rw [List.length_set] at h; omega
  · rw [List.length_set] at hj
    by_cases e : j = i
    · subst e
      refine ⟨.inr (.inr (.inr (.inr ⟨j, hj, (fun e => nomatch e), rfl⟩))), ?_⟩
      show (if false = true then _ else (if nB j = nB j then q else nB j)) = n7 q j j
      unfold n7; rw [if_neg (by decide), if_pos rfl, if_pos rfl]
    · refine ⟨.inr (.inr (.inr (.inr ⟨j, hj, (fun e => nomatch e), rfl⟩))), ?_⟩
      show (if false = true then _ else (if nB j = nB i then q else nB j)) = n7 q i j
      unfold n7; rw [if_neg (by decide), if_neg (fun h => e (fP h)), if_neg e]
end
theorem ldV_hd7 {P : Program} {t : TypeId} {q i : Nat} {N : List Row} {y : Row} (ha : aggB P t = some false) (hi : (P.info? t).isSome = true) (h : i < N.length) : ldV P t (hds (n7 q i) (N.set i y)) i = some (.slice (some ⟨q, 0, none⟩) y.length 0) := by
  rw [cY ha hi (by rw [List.length_set]; exact h), yM h, if_pos rfl]
  unfold n7; rw [if_pos rfl]
theorem set_hd7 {q i : Nat} {N : List Row} {y y' : Row} (h : i < N.length) : (hds (n7 q i) (N.set i y)).set i (.slice (some ⟨q, 0, none⟩) y'.length 0) = hds (n7 q i) (N.set i y') := by
  apply List.ext_getElem?
  intro j
  rw [List.getElem?_set, hds_get, hds_get, hds_len, List.length_set, List.length_set]
  by_cases e : i = j
  · subst e
    rw [if_pos rfl, if_pos h, if_pos h]
    unfold hdv n7
    rw [if_pos rfl, yM h, if_pos rfl]
  · rw [if_neg e]
    unfold hdv
    rw [yM h, yM h, if_neg e, if_neg e]
def EndF (P : Program) (fn : Func) (R : List Value → St → Prop) : Exit → St → Prop := fun e S => (e = .ret ∨ e = .normal) ∧ ∃ vs, uY P S fn.results.toList = some vs ∧ R vs S
theorem enF_ret {P : Program} {fn : Func} {R : List Value → St → Prop} {S : St} (vs : List Value) (hR : R vs S) (h1 : uY P S fn.results.toList = some vs := by kernel_rfl) : EndF P fn R .ret S := ⟨.inl rfl, vs, h1, hR⟩
/-- The walk of a function whose first block is a slice of slices; what it leaves is told by R. -/
theorem acF_core {P : Program} {f : FuncId} {fn : Func} {TH TP : TypeId} {X : List Row} {args : List Value} (hf : P.funcs[f]? = some fn) (ha : fL (· = 0) args) (R : List Value → St → Prop)
    (h : ∀ w0 W pin, AW ⟨w0, W, fn.ntmps, 1, pin, []⟩ P (sb fn 1) (mkF 1 (fF 0 args) [(0, ⟨hds (· + 200) X, TH, false, 1⟩)] (famR TP X)) (EndF P fn R))
    (hb : fn.body = some (mK fn) := by kernel_rfl) (hn : Nat.ble args.length fn.ntmps = true := by kernel_rfl) : ∀ (ρ : Ren) (w : World) (args' : Array Value), args.length = args'.size → (∀ (j : Nat) (u : Value), args[j]? = some u → ∃ x, args'[j]? = some x ∧ VRel ρ u x) →
    HOkL ρ w (famP TH TP X) → (∀ k, k < 1 + X.length → ∃ sp, ρ k = some sp) →
    Calls P f args' w fun e w' => ∃ v' ρ2 S1 vs n a', e = .returned v' ∧ R vs S1 ∧ VRel ρ2 (fV vs) v' ∧ Rel ⟨w, jX ρ (famP TH TP X), n, 1, ρ, []⟩ ρ2 S1 a' w' := by
  intro ρ w args' hl ha' hp hlow
  have hle := Nat.le_of_ble_eq_true hn
  refine calls_of_wp hf hb ?_
  have hW : ∀ b, ¬ jX ρ (famP TH TP X) b := by
    rintro b ⟨k, b, sp, hm, ho, _⟩
    rw [nT hm] at ho; cases ho
  let ρ1 : Ren := fun k => if k = 0 then ρ 0 else if 200 ≤ k then (if k - 200 < X.length then ρ (k - 200 + 1) else some ⟨0, 0, 0, 2⟩) else none
  have h10 : ρ1 0 = ρ 0 := rfl
  have h1s : ∀ j, j < X.length → ρ1 (j + 200) = ρ (j + 1) := fun j hj => by
    show (if j + 200 = 0 then _ else if 200 ≤ j + 200 then (if j + 200 - 200 < X.length then ρ (j + 200 - 200 + 1) else _) else _) = _
    rw [if_neg (by omega), if_pos (by omega), if_pos (by omega), Nat.add_sub_cancel]
  have hrel : Rel ⟨w, jX ρ (famP TH TP X), fn.ntmps, 1, ρ, []⟩ ρ1 (mkF 1 (fF 0 args) [(0, ⟨hds (· + 200) X, TH, false, 1⟩)] (famR TP X)) { tmps := args' ++ Array.replicate (fn.ntmps - args'.size) undef, defers := [] } w := by
    have live : ∀ k b, (mkF 1 (fF 0 args) [(0, ⟨hds (· + 200) X, TH, false, 1⟩)] (famR TP X)).H k = .live b → b.own = false ∧ ∃ sp, ρ1 k = some sp ∧ jC ρ1 w sp b := fun k b hk => by
      rcases Nat.lt_or_ge k 200 with hlt | hge
      · rw [vE hlt] at hk
        have hm := jY (gL _ _) hk
        simp only [List.mem_cons, List.not_mem_nil, or_false, Prod.mk.injEq] at hm
        obtain ⟨rfl, rfl⟩ := hm
        refine ⟨rfl, ?_⟩
        obtain ⟨sp, e1, e2⟩ := hp.live 0 _ qBD
        refine ⟨sp, e1, e2.map rfl rfl rfl (by simp [hds]) (fun i u hu => ?_)⟩
        rw [show (⟨hds (· + 200) X, TH, false, 1⟩ : Blk).cells = hds (· + 200) X from rfl, hds_get] at hu
        rw [show (⟨hds (· + 1) X, TH, false, 1⟩ : Blk).cells = hds (· + 1) X from rfl, hds_get]
        split at hu
        · rename_i hi
          cases hu
          refine ⟨_, by rw [if_pos hi], fun v r => ?_⟩
          unfold hdv at r ⊢
          generalize (X.getD i []).length = n at r ⊢
          cases r with
          | slice _ _ _ _ cap sp hk hc hs => exact .slice _ 0 n 0 cap sp ((h1s i hi).trans hk) hc hs
          | slice0 _ _ _ A => exact .slice0 _ 0 0 A
        · cases hu
      · rw [vV hge] at hk
        unfold famR at hk
        simp only [Cell.live.injEq] at hk
        subst hk
        refine ⟨rfl, ?_⟩
        rcases Nat.lt_or_ge (k - 200) X.length with hj | hj
        · obtain ⟨sp, e1, e2⟩ := hp.live _ _ (qBC (TH := TH) (TP := TP) hj)
          refine ⟨sp, by rw [show k = k - 200 + 200 by omega, h1s _ hj]; exact e1, e2.map rfl rfl rfl (Nat.le_refl _) (fun i u hu => ⟨u, hu, fun v r => ?_⟩)⟩
          have := qT (p := fun _ => False) (List.all_eq_true.1 (qA _) u (List.mem_of_getElem? hu))
          rw [r.eq_of_only this]; exact .of_only this
        · refine ⟨⟨0, 0, 0, 2⟩, ?_, ?_⟩
          · show (if k = 0 then _ else if 200 ≤ k then (if k - 200 < X.length then _ else _) else _) = _
            rw [if_neg (by omega), if_pos hge, if_neg (by omega)]
          · have : (X.getD (k - 200) []).flatMap ptc = [] := by rw [show X.getD (k - 200) [] = [] from by rw [List.getD_eq_getElem?_getD, List.getElem?_eq_none_iff.2 hj]; rfl]; rfl
            rw [jC.ro (by simp)]
            exact ⟨rfl, .inl this, fun i u hu => by rw [this] at hu; simp at hu⟩
    refine ⟨by simp; omega, rfl, fun t u hu => ?_, ⟨fun k hk => ?_, fun k b hk => (live k b hk).2, fun k1 k2 b1 b2 sp1 sp2 hne h1 _ ho => ?_⟩, FrameOk.refl _ _, fun k b sp hk ho hsp => ?_, fun k hk => ?_⟩
    · obtain ⟨j, h1, h2⟩ := uR (vZ hu)
      obtain ⟨x, h3, h4⟩ := ha' j u h2
      have : t = j := by omega
      subst this
      refine ⟨x, ?_, h4.congr (ha.mem (List.mem_of_getElem? h2)) (fun k hk => by rw [hk]; exact h10.symm)⟩
      obtain ⟨hj, _⟩ := Array.getElem?_eq_some_iff.1 h3
      rw [Array.getElem?_append_left hj]; exact h3
    · rcases Nat.lt_or_ge k 200 with hlt | hge
      · rw [vE hlt] at hk
        show (if k = 0 then _ else if 200 ≤ k then _ else none) = none
        rw [if_neg (fun e => by subst e; cases hk), if_neg (by omega)]
      · rw [vV hge] at hk; cases hk
    · rw [(live k1 b1 h1).1] at ho; cases ho
    · rw [(live k b hk).1] at ho; cases ho
    · have : k = 0 := by have h1 : k < 1 := hk; omega
      subst this
      obtain ⟨sp, hs⟩ := hlow 0 (by omega)
      exact ⟨sp, hs, hs⟩
  refine wp_mono (h w (jX ρ (famP TH TP X)) ρ ρ1 _ w hrel) ?_
  rintro e a' w' ⟨ρ2, S1, ⟨he, vs, hvs, hR⟩, hr⟩
  obtain ⟨vs', r1, r2, r3⟩ := bA (P := P) hr hvs
  have hres : (results fn a'.tmps).run P w' = .ok (if h : vs'.toArray.size = 1 then vs'.toArray[0] else .tuple vs'.toArray) w' := by
    rw [bZ]
    rw [show fn.results = fn.results.toList.toArray from rfl]
    simp only [Sem.run_bind]
    rw [List.mapM_toArray]
    simp only [Sem.run_map]
    rw [r1]
    rfl
  have fin : ∃ v', (results fn a'.tmps).run P w' = .ok v' w' ∧ ∃ v'' ρ2 S1 vs n a', Ending.returned v' = .returned v'' ∧ R vs S1 ∧ VRel ρ2 (fV vs) v'' ∧ Rel ⟨w, jX ρ (famP TH TP X), n, 1, ρ, []⟩ ρ2 S1 a' w' :=
    ⟨_, hres, _, ρ2, S1, vs, fn.ntmps, a', rfl, hR, cQ r2 r3, hr⟩
  rcases he with rfl | rfl
  · obtain ⟨v', h1, h2⟩ := fin
    exact ⟨hr.defers, v', h1, h2⟩
  · obtain ⟨v', h1, h2⟩ := fin
    exact ⟨hr.defers, v', h1, h2⟩
/-- the blocks of the slice of slices that is returned -/
def famQ (TH TP : TypeId) (m : Nat) (Y : List Row) : List (Nat × Blk) := (m, ⟨hds (fun j => m + 1 + j) Y, TH, true, 1⟩) :: (List.range Y.length).map fun j => (m + 1 + j, ⟨(Y.getD j []).flatMap ptc, TP, true, 2⟩)
theorem dM {TH TP : TypeId} {m : Nat} {Y : List Row} {k : Nat} {b : Blk} (h : (k, b) ∈ famQ TH TP m Y) : (k = m ∧ b = ⟨hds (fun j => m + 1 + j) Y, TH, true, 1⟩) ∨ ∃ j, j < Y.length ∧ k = m + 1 + j ∧ b = ⟨(Y.getD j []).flatMap ptc, TP, true, 2⟩ := by
  unfold famQ at h
  rcases List.mem_cons.1 h with h | h
  · simp only [Prod.mk.injEq] at h; exact .inl h
  · obtain ⟨j, hj, e⟩ := List.mem_map.1 h
    simp only [Prod.mk.injEq] at e
    exact .inr ⟨j, List.mem_range.1 hj, e.1.symm, e.2.symm⟩
/-- a slice of slices is left at the number K, its rows are the family B -/
def KeptR (TH TP : TypeId) (K : Nat) (Y : List Row) : List Value → St → Prop := fun vs S => vs = [.slice (some ⟨K, 0, none⟩) Y.length 0, .int .i64 0] ∧ S.H K = .live ⟨hds nB Y, TH, true, 1⟩ ∧ ∀ j, j < Y.length → S.H (nB j) = .live ⟨(Y.getD j []).flatMap ptc, TP, true, 2⟩
theorem acK {P : Program} {f : FuncId} {fn : Func} {TH TP : TypeId} {X Y : List Row} {args : List Value} (K : Nat) (hK : K < 200) (hf : P.funcs[f]? = some fn) (ha : fL (· = 0) args)
    (h : ∀ w0 W pin, AW ⟨w0, W, fn.ntmps, 1, pin, []⟩ P (sb fn 1) (mkF 1 (fF 0 args) [(0, ⟨hds (· + 200) X, TH, false, 1⟩)] (famR TP X)) (EndF P fn (KeptR TH TP K Y)))
    (hb : fn.body = some (mK fn) := by kernel_rfl) (hn : Nat.ble args.length fn.ntmps = true := by kernel_rfl) :
    AC P f (1 + X.length) args (famP TH TP X) (.tuple #[.slice (some ⟨1 + X.length, 0, none⟩) Y.length 0, .int .i64 0]) (famQ TH TP (1 + X.length) Y) := by
  intro ρ w args' hl ha' hp hlow hhigh
  refine (acF_core hf ha (KeptR TH TP K Y) h hb hn ρ w args' hl ha' hp hlow).mono ?_
  rintro e w' ⟨v', ρ2, S1, vs, n, a', rfl, ⟨rfl, h1, h2⟩, hv, hr⟩
  let ρ' : Ren := fun k => if k < 1 + X.length then ρ k else if k = 1 + X.length then ρ2 K else ρ2 (nB (k - (1 + X.length + 1)))
  have lo : ∀ k, k < 1 + X.length → ρ' k = ρ k := fun k hk => if_pos hk
  have atK : ρ' (1 + X.length) = ρ2 K := by
    show (if 1 + X.length < 1 + X.length then _ else if 1 + X.length = 1 + X.length then _ else _) = _
    rw [if_neg (by omega), if_pos rfl]
  have atB : ∀ j, ρ' (1 + X.length + 1 + j) = ρ2 (nB j) := fun j => by
    show (if 1 + X.length + 1 + j < 1 + X.length then _ else if 1 + X.length + 1 + j = 1 + X.length then _ else _) = _
    rw [if_neg (by omega), if_neg (by omega), Nat.add_sub_cancel_left]
  -- the names behind the call, as the walk has them
  let τ : Nat → Nat := fun k => if k = 1 + X.length then K else nB (k - (1 + X.length + 1))
  have tK : τ (1 + X.length) = K := if_pos rfl
  have tB : ∀ j, τ (1 + X.length + 1 + j) = nB j := fun j => by
    show (if 1 + X.length + 1 + j = 1 + X.length then _ else _) = _
    rw [if_neg (by omega), Nat.add_sub_cancel_left]
  have hτ : ∀ k, 1 + X.length ≤ k → ρ' k = ρ2 (τ k) := fun k hk => by
    by_cases e : k = 1 + X.length
    · subst e; rw [atK, tK]
    · obtain ⟨j, rfl⟩ : ∃ j, k = 1 + X.length + 1 + j := ⟨k - (1 + X.length + 1), by omega⟩
      rw [atB, tB]
  have old : ∀ k b, (k, b) ∈ famQ TH TP (1 + X.length) Y → 1 + X.length ≤ k ∧ b.own = true ∧ ∃ b1, S1.H (τ k) = .live b1 ∧ RenB τ (fun q => 1 + X.length ≤ q) b b1 := fun k b hk => by
    rcases dM hk with ⟨rfl, rfl⟩ | ⟨j, hj, rfl, rfl⟩
    · refine ⟨Nat.le_refl _, rfl, ⟨hds nB Y, TH, true, 1⟩, by rw [tK]; exact h1, rfl, rfl, rfl, vC fun j _ => ⟨by omega, tB j⟩⟩
    · exact ⟨by omega, rfl, _, by rw [tB]; exact h2 j hj, rfl, rfl, rfl, .flats (qA _)⟩
  refine ⟨v', ρ', rfl, ?_, lo, ⟨fun k b hk => ?_, fun k k' b b' sp sp' hne hk hk' ho nv e1 e2 => ?_⟩, fun k b sp hm hk hsp => ?_, hr.frame⟩
  · have hren : RenV τ (fun q => 1 + X.length ≤ q) (.tuple #[.slice (some ⟨1 + X.length, 0, none⟩) Y.length 0, .int .i64 0]) (fV [.slice (some ⟨K, 0, none⟩) Y.length 0, .int .i64 0]) := by
      refine .tuple _ _ rfl fun i hi => ?_
      match i, hi with
      | 0, _ =>
        have := RenV.slice (σ := τ) (p := fun q => 1 + X.length ≤ q) (1 + X.length) 0 Y.length 0 0 (Nat.le_refl _)
        rwa [tK] at this
      | 1, _ => exact .flat _ (.int _ _)
    exact hren.into hτ hv
  · obtain ⟨hge, _, b1, g1, g2⟩ := old k b hk
    obtain ⟨sp, q1, q2⟩ := hr.heap.live _ b1 g1
    exact ⟨sp, (hτ k hge).trans q1, g2.into hτ q2⟩
  · obtain ⟨hge, _, b1, g1, g2⟩ := old k b hk
    obtain ⟨hge', _, b1', g1', g2'⟩ := old k' b' hk'
    rw [hτ k hge] at e1
    rw [hτ k' hge'] at e2
    refine hr.heap.apart _ _ b1 b1' sp sp' (fun e => hne ?_) g1 g1' (by rw [g2.own]; exact ho) (fun v => nv (g2'.void.2 v)) e1 e2
    rcases dM hk with ⟨rfl, _⟩ | ⟨j, hj, rfl, _⟩ <;> rcases dM hk' with ⟨rfl, _⟩ | ⟨j', hj', rfl, _⟩
    · rfl
    · rw [tK, tB] at e; have := j5 j'; omega
    · rw [tK, tB] at e; have := j5 j; omega
    · rw [tB, tB] at e; rw [fP e]
  · obtain ⟨hge, ho, b1, g1, g2⟩ := old k b hk
    rw [hτ k hge] at hsp
    exact (hr.owned _ b1 sp g1 (by rw [g2.own]; exact ho) hsp).symm
theorem tJ {C : Ctx} {P : Program} {Q : Exit → St → Prop} {c : Code} {S : St} (k nm t len : Nat) (b : Blk) (T : List (Nat × Value)) (L : List (Nat × Blk)) (G : Nat → Cell) (hb : S.H nm = .live b) (hf : b.cells.all flatB = true) (cL : ClF C.m (L.map (·.1)) L) (fG : u5 G)
    (h : AW C P c (mkF C.m ((t, .slice (some ⟨k, 0, none⟩) len 0) :: T) ((k, b) :: L) G) Q) (hm : Nat.ble C.m k = true := by kernel_rfl) (hk : Nat.blt k 200 = true := by kernel_rfl) (ho : b.own = false := by kernel_rfl)
    (hT : T.map (fun x => S.T x.1) = T.map (fun x => some x.2) := by kernel_rfl) (ht : S.T t = some (.slice (some ⟨nm, 0, none⟩) len 0) := by kernel_rfl) (hL : L.map (fun x => S.H x.1) = L.map (fun x => .live x.2) := by kernel_rfl)
    (hG : ∀ j, S.H (j + 200) = G (j + 200) := by intro j; kernel_rfl) (hkL : (L.map (·.1)).any (Nat.beq k) = false := by kernel_rfl) (cT : xX C.m (L.map (·.1)) T = true := by kernel_rfl) : AW C P c S Q := by
  have hk' := gB hk
  have hm' := Nat.le_of_ble_eq_true hm
  have hkn : k ∉ L.map (·.1) := fun e => by rw [any_beq.2 e] at hkL; cases hkL
  refine yL (qDA (T := (t, .slice (some ⟨k, 0, none⟩) len 0) :: T) (T0 := (t, .slice (some ⟨nm, 0, none⟩) len 0) :: T) (L := L) (L' := (k, b) :: L) (G := G) k nm b (by omega) ⟨ht, gM hT⟩ (yY hL) (rX hG) hb ho (fun v hv => qT (List.all_eq_true.1 hf v hv)) ⟨hm', hk'⟩ hkn
    (fun q c hq => (List.mem_cons.1 hq).imp (fun e => Prod.mk.inj e) id) (fun q hq => hq.elim (fun e => by subst e; exact List.mem_cons_self) (fun e => List.mem_cons_of_mem _ e)) ⟨rfl, ?_, .fix fun t' v hv => .fix (fun q hq => ?_) (vQ cT hv)⟩ cL fG) h
  · have := RenV.slice (σ := fun q => if q = k then nm else q) (p := fun q => q = k ∨ q < C.m ∨ q ∈ L.map (·.1) ∨ 200 ≤ q) k 0 len 0 0 (.inl rfl)
    rwa [show (if k = k then nm else k) = nm from if_pos rfl] at this
  · refine ⟨.inr (hq.elim .inl fun e => .inr (.inl e)), if_neg fun e => ?_⟩
    subst e
    exact hq.elim (fun e => by omega) hkn
theorem may_rows {S : St} {X N : List Row} {TP : TypeId} {u : Nat} {y : Row} (h7 : S.H 7 = .live ⟨y.flatMap ptc, TP, true, 2⟩) (hG : ∀ j, S.H (j + 200) = fam2 TP X (ownX TP N u) (j + 200)) (hu : u < N.length) :
    ∀ j, j < (N.set u y).length → ∃ e o, S.H (n7 7 u j) = .live ⟨((N.set u y).getD j []).flatMap ptc, e, o, 2⟩ := fun j hj => by
  rw [List.length_set] at hj
  refine ⟨TP, true, ?_⟩
  unfold n7
  rw [yM hu]
  by_cases e : j = u
  · rw [if_pos e, if_pos e.symm]; exact h7
  · rw [if_neg e, if_neg (fun h => e h.symm), rX hG _ (j5 j), xB]
    unfold ownX
    rw [if_neg e]
    unfold ownB
    rw [if_pos hj]
theorem fam2_own {TP : TypeId} {X N : List Row} {j : Nat} (h : j < N.length) : fam2 TP X (ownB TP N) (nB j) = .live ⟨(N.getD j []).flatMap ptc, TP, true, 2⟩ := by
  rw [xB]; unfold ownB; rw [if_pos h]
end Go.Proofs.Ytadifmimefmcnaa.Am
