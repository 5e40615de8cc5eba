import Derived.Test.YtadifmimefmcnaaM1
import Derived.Laws.Append
import Derived.Laws.AppendOwn
import Derived.Laws.MakeOwn
import Derived.WalkKit
import Derived.ProofKit
import Derived.OpenShut
import Derived.Below
import Derived.ChangeSame
import Derived.Deep.Slices
import Derived.WideKeyArgs
import Derived.Laws.Externs
set_option maxHeartbeats 4000000
set_option linter.unusedVariables false
set_option linter.unusedSimpArgs false
namespace Go.Proofs.Ytadifmimefmcnaa.Am
open Go
section
variable {C : Ctx} {P : Program} {S S1 : St} {Q : Exit → St → Prop}
theorem lS {c r y : Code} {id : Nat} {ops : Array Oper} {steps : List Step} (hc : c = .seq r y) (hr0 : r = .region id ops false) (hd : dstB ops C.n = true) (hn : steps.length = ops.size)
    (hr : Runs C P ops 0 S steps S1) (hq : AW C P y S1 Q) : AW C P c S Q := aw_seq hc (qC7 hr0 hd hn hr hq)
theorem lU {c r y : Code} {id : Nat} {ops : Array Oper} {steps : List Step} (A : List (List Nat)) (hc : c = .seq r y) (hm : P.follows .mixedOrders = true) (hr0 : r = .region id ops true) (hd : dstB ops C.n = true)
    (hn : steps.length = ops.size) (hA : (tU ops A && gH ops A && vH ops steps A) = true) (hr : Runs C P ops 0 S steps S1) (hq : AW C P y S1 Q) : AW C P c S Q :=
  aw_seq hc (qC8 A hm hr0 hd hn hA hr hq)
theorem aw_joinF {c y : Code} {S1 : St} (F : Prop) (h : F → AW C P y S1 Q) (k : (F → AW C P y S1 Q) → AW C P c S Q) : AW C P c S Q := k h
theorem lT {c y : Code} {S1 : St} {K : St → Prop} (F : Prop) (h : F → AW C P y S1 Q) (k : (F → AW C P y S1 Q) → AW C P c S (rA K Q)) : AW C P c S (rA K Q) := k h
theorem then_normal {K : St → Prop} (h : K S) : rA K Q .normal S := h
theorem then_ret {K : St → Prop} (h : Q .ret S) : rA K Q .ret S := h
theorem then_exit {K : St → Prop} {id : Nat} (h : Q (.exit id) S) : rA K Q (.exit id) S := h
theorem block_normal {id : Nat} (h : Q .normal S) : lN id Q .normal S := h
theorem block_ret {id : Nat} (h : Q .ret S) : lN id Q .ret S := h
theorem qG {id : Nat} (h : Q .normal S) : lN id Q (.exit id) S := ⟨fun _ => h, fun e => absurd rfl e⟩
end
def valB (m : Nat) (ks : List Nat) : Value → Bool
  | .pointer (some ⟨k, _, none⟩) => Nat.blt k m || ks.any (Nat.beq k)
  | .slice (some ⟨k, _, none⟩) _ _ => Nat.blt k m || ks.any (Nat.beq k)
  | v => c9 v
def valsB (m : Nat) (ks : List Nat) : Value → Bool
  | .agg xs => xs.toList.all (valB m ks)
  | .tuple xs => xs.toList.all (fun v => valB m ks v || match v with
    | .agg ys => ys.toList.all (valB m ks)
    | _ => false)
  | .func _ xs ys => xs.toList.all (valB m ks) && ys.toList.all (valB m ks)
  | v => valB m ks v
theorem y4 {m : Nat} {L : List (Nat × Blk)} {v : Value} (h : valB m (L.map (·.1)) v = true) : Only (keyB m L) v := by
  unfold valB at h
  split at h
  · exact .ptr _ _ h
  · exact .slice _ _ _ _ h
  · exact gJ h
theorem bT {m : Nat} {L : List (Nat × Blk)} {v : Value} (h : valsB m (L.map (·.1)) v = true) : Only (keyB m L) v := by
  unfold valsB at h
  split at h
  · exact .agg _ (vD fun v hv => y4 (List.all_eq_true.1 h v hv))
  · refine .tuple _ (vD fun v hv => ?_)
    have := List.all_eq_true.1 h v hv
    rw [Bool.or_eq_true] at this
    rcases this with h1 | h1
    · exact y4 h1
    · split at h1
      · exact .agg _ (vD fun u hu => y4 (List.all_eq_true.1 h1 u hu))
      · cases h1
  · rw [Bool.and_eq_true] at h
    exact .func _ _ _ (vD fun v hv => y4 (List.all_eq_true.1 h.1 v hv)) (vD fun v hv => y4 (List.all_eq_true.1 h.2 v hv))
  · exact y4 h
def wW (m : Nat) (T : List (Nat × Value)) (L : List (Nat × Blk)) : Bool :=
  T.all (fun x => valsB m (L.map (·.1)) x.2) && L.all (fun x => x.2.cells.all (valsB m (L.map (·.1))))
theorem mF {p : Nat → Prop} : ∀ {T : List (Nat × Value)}, (∀ t v, (t, v) ∈ T → Only p v) → uT p T
  | [], _ => trivial
  | (t, v) :: _, h => ⟨h t v List.mem_cons_self, mF (fun t' v' hm => h t' v' (List.mem_cons_of_mem _ hm))⟩
theorem mG {p : Nat → Prop} : ∀ {L : List (Nat × Blk)}, (∀ k b, (k, b) ∈ L → ∀ v, v ∈ b.cells → Only p v) → uU p L
  | [], _ => trivial
  | (k, b) :: _, h => ⟨h k b List.mem_cons_self, mG (fun k' b' hm => h k' b' (List.mem_cons_of_mem _ hm))⟩
theorem gM {S : St} : ∀ {T : List (Nat × Value)}, T.map (fun x => S.T x.1) = T.map (fun x => some x.2) → AllT S T
  | [], _ => trivial
  | (_, _) :: _, h => by simp only [List.map_cons, List.cons.injEq] at h; exact ⟨h.1, gM h.2⟩
theorem yY {S : St} : ∀ {L : List (Nat × Blk)}, L.map (fun x => S.H x.1) = L.map (fun x => .live x.2) → AllH S L
  | [], _ => trivial
  | (_, _) :: _, h => by simp only [List.map_cons, List.cons.injEq] at h; exact ⟨h.1, yY h.2⟩
theorem weak_b {C : Ctx} {S : St} {T : List (Nat × Value)} {L : List (Nat × Blk)} (hT : T.map (fun x => S.T x.1) = T.map (fun x => some x.2)) (hL : L.map (fun x => S.H x.1) = L.map (fun x => .live x.2))
    (hc : wW C.m T L = true) : Weak C S (mkSt C.m T L) := by
  unfold wW at hc
  rw [Bool.and_eq_true] at hc
  exact weak_to (gM hT) (yY hL) (mF fun t v hm => bT (List.all_eq_true.1 hc.1 (t, v) hm))
    (mG fun k b hm v hv => bT (List.all_eq_true.1 (List.all_eq_true.1 hc.2 (k, b) hm) v hv))
theorem wrap_i64 {n : Int} (h1 : -9223372036854775808 ≤ n) (h2 : n ≤ 9223372036854775807) : IntKind.wrap .i64 n = n := by
  simp only [IntKind.wrap, IntKind.bits, IntKind.signed]
  have : (2 : Int) ^ 64 = 18446744073709551616 := by decide
  have : (2 : Int) ^ (64 - 1) = 9223372036854775808 := by decide
  simp only [*, Bool.true_and]
  split
  · rename_i h; simp only [decide_eq_true_eq] at h; omega
  · rename_i h; simp only [decide_eq_true_eq] at h; omega
theorem wrap_u64 {n : Int} (h1 : 0 ≤ n) (h2 : n ≤ 18446744073709551615) : IntKind.wrap .u64 n = n := by
  simp only [IntKind.wrap, IntKind.bits, IntKind.signed]
  have : (2 : Int) ^ 64 = 18446744073709551616 := by decide
  simp only [this, Bool.false_and, Bool.false_eq_true, if_false]
  omega
def PRel (ρ : Ren) (l l' : List Value) : Prop := l.length = l'.length ∧ ∀ (j : Nat) (u : Value), l[j]? = some u → ∃ x, l'[j]? = some x ∧ VRel ρ u x
theorem PRel.set {ρ : Ren} {l l' : List Value} (h : PRel ρ l l') {u u' : Value} (r : VRel ρ u u') (n : Nat) : PRel ρ (l.set n u) (l'.set n u') := by
  refine ⟨by simp [h.1], fun j x hx => ?_⟩
  rw [List.getElem?_set] at hx
  by_cases e : n = j
  · subst e
    rw [if_pos rfl] at hx
    split at hx
    · cases hx
      rename_i hlt
      exact ⟨u', by rw [List.getElem?_set_self (by have := h.1; omega)], r⟩
    · cases hx
  · rw [if_neg e] at hx
    obtain ⟨y, h1, h2⟩ := h.2 j x hx
    exact ⟨y, by rw [List.getElem?_set_ne e]; exact h1, h2⟩
theorem PRel.tail {ρ : Ren} {x y : Value} {l l' : List Value} (h : PRel ρ (x :: l) (y :: l')) : PRel ρ l l' := ⟨by simpa using h.1, fun j u hu => by have := h.2 (j + 1) u hu; simpa using this⟩
theorem PRel.head {ρ : Ren} {x y : Value} {l l' : List Value} (h : PRel ρ (x :: l) (y :: l')) : VRel ρ x y := by
  obtain ⟨z, h1, h2⟩ := h.2 0 x rfl
  simp only [List.getElem?_cons_zero, Option.some.injEq] at h1
  subst h1; exact h2
theorem PRel.cells {ρ : Ren} {v v' : Value} (r : VRel ρ v v') : PRel ρ v.cells.toList v'.cells.toList := by
  obtain ⟨h1, h2⟩ := r.cells
  exact ⟨by simpa using h1, fun j u hu => by obtain ⟨x, e1, e2⟩ := h2 j u hu; exact ⟨x, by simpa using e1, e2⟩⟩
/-- The fold of 'fill', on lists. -/
def putL (off : Nat) : Nat → List Value → List Value → List Value
  | _, [], cs => cs
  | i, c :: l, cs => putL off (i + 1) l (cs.set (off + i) c)
theorem qA4 {ρ : Ren} {off : Nat} : ∀ (l l' : List Value) (i : Nat) (cs cs' : List Value), PRel ρ l l' → PRel ρ cs cs' → PRel ρ (putL off i l cs) (putL off i l' cs')
  | [], [], _, _, _, _, h => h
  | [], _ :: _, _, _, _, h, _ => by have := h.1; simp at this
  | _ :: _, [], _, _, _, h, _ => by have := h.1; simp at this
  | x :: l, y :: l', i, cs, cs', h, h2 => qA4 l l' (i + 1) _ _ h.tail (h2.set h.head _)
theorem rZ (off : Nat) : ∀ (l : List Value) (i : Nat) (cs : Array Value), ((l.zipIdx i).foldl (fun cs (x : Value × Nat) => cs.setIfInBounds (off + x.2) x.1) cs).toList = putL off i l cs.toList
  | [], _, _ => rfl
  | x :: l, i, cs => by
    simp only [List.zipIdx_cons, List.foldl_cons, putL]
    rw [rZ off l (i + 1)]
    simp
def eC (place : Nat → Option (Nat × Nat)) : List (Nat × Value) → List Value → Option (List Value)
  | [], cs => some cs
  | (i, v) :: rest, cs => match place i with
    | none => none
    | some (off, size) => bif Nat.beq v.cells.toList.length size && Nat.ble (off + size) cs.length then eC place rest (putL off 0 v.cells.toList cs) else none
def qD7 (ρ : Ren) (l l' : List (Nat × Value)) : Prop := l.length = l'.length ∧ ∀ (j i : Nat) (u : Value), l[j]? = some (i, u) → ∃ x, l'[j]? = some (i, x) ∧ VRel ρ u x
theorem nQ {ρ : Ren} {place : Nat → Option (Nat × Nat)} : ∀ (ps ps' : List (Nat × Value)) (cs : List Value) (cs' : Array Value) (r : List Value), qD7 ρ ps ps' → PRel ρ cs cs'.toList → eC place ps cs = some r →
    ∃ r', Instr.fill place cs' ps' = some r' ∧ PRel ρ r r'.toList
  | [], [], cs, cs', r, _, h2, h3 => by cases h3; exact ⟨cs', rfl, h2⟩
  | [], _ :: _, _, _, _, h, _, _ => by have := h.1; simp at this
  | _ :: _, [], _, _, _, h, _, _ => by have := h.1; simp at this
  | (i, v) :: ps, (i', v') :: ps', cs, cs', r, h, h2, h3 => by
    obtain ⟨x, e1, e2⟩ := h.2 0 i v rfl
    simp only [List.getElem?_cons_zero, Option.some.injEq, Prod.mk.injEq] at e1
    obtain ⟨rfl, rfl⟩ := e1
    simp only [eC] at h3
    split at h3
    · cases h3
    · rename_i off size hp
      have hc := PRel.cells e2
      cases hb : (Nat.beq v.cells.toList.length size && Nat.ble (off + size) cs.length) with
      | false => rw [hb] at h3; cases h3
      | true =>
        rw [hb] at h3
        simp only [cond_true] at h3
        rw [Bool.and_eq_true] at hb
        have b1 := Nat.eq_of_beq_eq_true hb.1
        have b2 := Nat.le_of_ble_eq_true hb.2
        have s1 : v'.cells.size = size := by have := hc.1; simp at this b1; omega
        have s2 : cs.length = cs'.size := by have := h2.1; simpa using this
        have hfold : (v'.cells.zipIdx.foldl (fun cs (c, j) => cs.setIfInBounds (off + j) c) cs').toList = putL off 0 v'.cells.toList cs'.toList := by
          rw [← Array.foldl_toList, Array.toList_zipIdx]
          exact rZ off v'.cells.toList 0 cs'
        have hcond : (v'.cells.size ≠ size || off + v'.cells.size > cs'.size) = false := by
          rw [s1]; simp; omega
        obtain ⟨r', q1, q2⟩ := nQ ps ps' (putL off 0 v.cells.toList cs) (v'.cells.zipIdx.foldl (fun cs (c, j) => cs.setIfInBounds (off + j) c) cs') r
          ⟨by have := h.1; simpa using this, fun j i u hu => by have := h.2 (j + 1) i u hu; simpa using this⟩ (by rw [hfold]; exact qA4 _ _ 0 _ _ hc h2) h3
        refine ⟨r', ?_, q2⟩
        simp only [Instr.fill, hp]
        simp only [hcond, Bool.false_eq_true, if_false]
        exact q1
def evP (S : St) : List (Nat × Operand) → Option (List (Nat × Value))
  | [] => some []
  | (i, x) :: l => match ev S x, evP S l with
    | some v, some vs => some ((i, v) :: vs)
    | _, _ => none
theorem eD {C : Ctx} {ρ : Ren} {S : St} {a : Act} {w : World} (h : Rel C ρ S a w) : ∀ {l : List (Nat × Operand)} {vs : List (Nat × Value)}, evP S l = some vs → qD7 ρ vs (l.map fun p => (p.1, a.eval p.2))
  | [], vs, hv => by cases hv; exact ⟨rfl, fun j i u hu => by simp at hu⟩
  | (i, x) :: l, vs, hv => by
    unfold evP at hv
    split at hv
    · rename_i v vs0 h1 h2
      cases hv
      obtain ⟨f1, f2⟩ := eD h h2
      refine ⟨by simp at f1 ⊢; exact f1, fun j i' u hu => ?_⟩
      cases j with
      | zero => simp only [List.getElem?_cons_zero, Option.some.injEq, Prod.mk.injEq] at hu; obtain ⟨rfl, rfl⟩ := hu; exact ⟨_, by simp, jM h h1⟩
      | succ j => simp only [List.getElem?_cons_succ] at hu; simpa using f2 j i' u hu
    · cases hv
theorem qBF {S S' : St} {l : List (Nat × Operand)} (h : ∀ p, p ∈ l → ev S' p.2 = ev S p.2) : evP S' l = evP S l := by
  induction l with
  | nil => rfl
  | cons x l ih => obtain ⟨i, x⟩ := x; simp only [evP]; rw [h (i, x) List.mem_cons_self, ih (fun y hy => h y (List.mem_cons_of_mem _ hy))]
section
variable {C : Ctx} {P : Program} {ops : Array Oper} {i : Nat} {S : St}
theorem PRel.flat {ρ : Ren} {l : List Value} (h : l.all flatB = true) : PRel ρ l l := ⟨rfl, fun _ u hu => ⟨u, hu, .of_only (qT (List.all_eq_true.1 h u (List.mem_of_getElem? hu)))⟩⟩
/-- A slice literal: a new row. -/
def sM (P : Program) (e : TypeId) (n : Nat) : Option (List Value) := match P.info? e with
  | some i => bif Nat.beq (n * i.size) 0 then some [] else match i.zero with
    | some z => some ((List.range (n * i.size)).map (fun j => z.cells[j % z.cells.size]!))
    | none => none
  | none => none
def vF (P : Program) (t : TypeId) : Option TypeId := match P.underlying t with
  | some (.slice e) => some e
  | _ => none
theorem uE {t e : TypeId} {n k z : Nat} {parts : Array (Nat × Operand)} {ps : List (Nat × Value)} {zs cells : List Value} (hs : qZ ops S i = some (.buildSlice t n parts, true)) (hk : S.H k = .fresh)
    (he : vF P t = some e) (hz : (P.info? e).map (·.size) = some z) (hps : evP S parts.toList = some ps) (hzs : sM P e n = some zs) (hfz : zs.all flatB = true)
    (hc : eC (fun i => some (i * z, z)) ps zs = some cells) (hl : Nat.beq cells.length (n * z) = true) (hb : Nat.ble (n * z) 16777216 = true) :
    Does C P ops i S ⟨[k], .slice (some ⟨k, 0, none⟩) n 0, [(k, .live ⟨cells, e, true, z⟩)]⟩ :=
  .of_run hs fun o ho S' ρ a w hT hH' hr => by
    have hps' : evP S' parts.toList = some ps := by rw [qBF (fun p hp => hT p.2 (by simp [Op.operands]; exact ⟨p.1, by simpa using hp⟩))]; exact hps
    have hpr := eD hr hps'
    rw [Option.map_eq_some_iff] at hz
    obtain ⟨inf, hi, rfl⟩ := hz
    obtain ⟨r', q1, q2⟩ := nQ ps _ zs zs.toArray cells hpr (by simpa using PRel.flat (ρ := ρ) hfz) hc
    have hlen := Nat.eq_of_beq_eq_true hl
    have hsz : r'.size = n * inf.size := by have := q2.1; simp at this; omega
    have hb' := Nat.le_of_ble_eq_true hb
    obtain ⟨hn, hrel⟩ := Rel.new hr (by rw [hH' k (by simp)]; exact hk) (cells := cells) (c := r') (e := e) (st := inf.size) (by omega) (fun j u hu => by obtain ⟨x, e1, e2⟩ := q2.2 j u hu; exact ⟨x, by simpa using e1, e2⟩)
    refine ⟨.value (.slice (some ⟨w.heap.size, 0, none⟩) n n), w.alloc (.cells r' e), _, .slice (some ⟨w.heap.size, 0, none⟩) n n, ?_, .inl rfl, ?_, hrel⟩
    · have hu : P.underlying t = some (.slice e) := by
        unfold vF at he
        split at he
        · rename_i hu; cases he; exact hu
        · cases he
      have hbig : ¬ (n * inf.size > 2 ^ 24) := by have : (2 : Nat) ^ 24 = 16777216 := by decide
                                                  omega
      simp only [execOp, ho, Instr.buildSlice, Sem.run_bind, run_underlying hu, Result.andThen_ok, gQ hi, Sem.run_ite, hbig, if_false, Sem.run_pure]
      have hpm : (Array.map (fun x : Nat × Operand => (x.1, a.eval x.2)) parts).toList = parts.toList.map fun p => (p.1, a.eval p.2) := by simp
      unfold sM at hzs
      rw [hi] at hzs
      simp only at hzs
      by_cases h0 : n * inf.size = 0
      · have hb0 : Nat.beq (n * inf.size) 0 = true := by rw [h0]; rfl
        rw [hb0] at hzs
        simp only [cond_true, Option.some.injEq] at hzs
        subst hzs
        simp only [h0, if_true, Array.range_zero', Array.map_empty]
        have q1' : Instr.fill (fun i => some (i * inf.size, inf.size)) #[] (parts.toList.map fun p => (p.1, a.eval p.2)) = some r' := q1
        rw [hpm, q1']
        simp only [newRow, Sem.run_bind, run_newObj, Result.andThen_ok, Sem.run_pure]
        rfl
      · have hb0 : Nat.beq (n * inf.size) 0 = false := by
          cases hq : Nat.beq (n * inf.size) 0 with
          | false => rfl
          | true => exact absurd (Nat.eq_of_beq_eq_true hq) h0
        rw [hb0] at hzs
        simp only [cond_false] at hzs
        split at hzs
        · rename_i zv hzv
          cases hzs
          have hzz : (Array.range (n * inf.size)).map (fun j => zv.cells[j % zv.cells.size]!) = ((List.range (n * inf.size)).map (fun j => zv.cells[j % zv.cells.size]!)).toArray := by
            apply Array.ext'
            simp [Array.toList_range]
          simp only [h0, if_false, mS hi hzv, Result.andThen_ok]
          rw [hzz, hpm, q1]
          simp only [newRow, Sem.run_bind, run_newObj, Result.andThen_ok, Sem.run_pure]
          rfl
        · cases hzs
    · exact .slice k 0 n 0 n ⟨w.heap.size, 0, r'.size, inf.size⟩ (jE _ _ _) (Nat.le_refl _) (by show 0 + n * inf.size ≤ r'.size; omega)
/-- A struct or an array out of its parts, whatever they are. -/
def wA (P : Program) (t : TypeId) (i : Nat) : Option (Nat × Nat) := match P.underlying t with
  | some (.struct fs) => match fs[i]? with
    | some f => match P.info? f.type with
      | some inf => some (f.offset, inf.size)
      | none => none
    | none => none
  | some (.array _ e) => match P.info? e with
    | some inf => some (i * inf.size, inf.size)
    | none => none
  | _ => none
theorem run_places {w : World} : ∀ (l : List Field), (∀ f, f ∈ l → ∃ inf, P.info? f.type = some inf) →
    (l.mapM (fun f => (do pure (f.offset, ← sizeOf f.type) : Sem (Nat × Nat)))).run P w = .ok (l.map fun f => (f.offset, ((P.info? f.type).map (·.size)).getD 0)) w
  | [], _ => by simp
  | f :: l, h => by
    obtain ⟨inf, hi⟩ := h f List.mem_cons_self
    rw [List.mapM_cons]
    simp only [Sem.run_bind, gQ hi, Result.andThen_ok, Sem.run_pure, run_places l (fun g hg => h g (List.mem_cons_of_mem _ hg)), List.map_cons, hi, Option.map_some, Option.getD_some]
def infosB (P : Program) (t : TypeId) : Bool := match P.underlying t with
  | some (.struct fs) => fs.toList.all fun f => (P.info? f.type).isSome
  | some (.array _ e) => (P.info? e).isSome
  | _ => false
theorem qF0 {t : TypeId} {parts : Array (Nat × Operand)} {ps : List (Nat × Value)} {z : Value} {cells : List Value} (hs : qZ ops S i = some (.build t parts, true))
    (hz : zeroOf P t = some z) (hfz : z.cells.toList.all flatB = true) (hin : infosB P t = true) (hps : evP S parts.toList = some ps) (hc : eC (wA P t) ps z.cells.toList = some cells) :
    Does C P ops i S ⟨[], .agg cells.toArray, []⟩ :=
  .of_run hs fun o ho S' ρ a w hT _ hr => by
    have hps' : evP S' parts.toList = some ps := by rw [qBF (fun p hp => hT p.2 (by simp [Op.operands]; exact ⟨p.1, by simpa using hp⟩))]; exact hps
    have hpr := eD hr hps'
    obtain ⟨r', q1, q2⟩ := nQ ps _ z.cells.toList z.cells cells hpr (PRel.flat (ρ := ρ) hfz) hc
    have hval : VRel ρ (.agg cells.toArray) (.agg r') := .agg _ _ (by simpa using q2.1) (fun j hj => by
      obtain ⟨x, e1, e2⟩ := q2.2 j cells[j] (List.getElem?_eq_getElem (by simpa using hj))
      have : r'[j]? = some x := by simpa using e1
      obtain ⟨hj', he⟩ := Array.getElem?_eq_some_iff.1 this
      simp only [List.getElem_toArray]
      rw [he]; exact e2)
    refine ⟨_, w, ρ, .agg r', ?_, .inl rfl, hval, hr⟩
    have hpm : (Array.map (fun x : Nat × Operand => (x.1, a.eval x.2)) parts).toList = parts.toList.map fun p => (p.1, a.eval p.2) := by simp
    simp only [execOp, ho, Instr.build, Sem.run_bind, bY hz, Result.andThen_ok]
    unfold infosB at hin
    split at hin
    · rename_i fs hu
      have hpl := run_places (P := P) (w := w) fs.toList (fun f hf => by have := List.all_eq_true.1 hin f hf; exact Option.isSome_iff_exists.1 this)
      simp only [run_underlying hu, Result.andThen_ok, Sem.run_bind]
      rw [show fs = fs.toList.toArray from rfl, List.mapM_toArray]
      simp only [Sem.run_map]
      rw [hpl]
      simp only [Result.andThen_ok]
      have hpe : (fun i => ((fs.toList.map fun f => (f.offset, ((P.info? f.type).map (·.size)).getD 0)).toArray)[i]?) = wA P t := by
        funext i
        unfold wA
        rw [hu]
        simp only [List.getElem?_toArray, List.getElem?_map]
        cases hfi : fs.toList[i]? with
        | none =>
          have : fs[i]? = none := by simpa using hfi
          simp only [this, Option.map_none]
        | some f =>
          have h1 : fs[i]? = some f := by simpa using hfi
          have hm : f ∈ fs.toList := List.mem_of_getElem? hfi
          obtain ⟨inf, hi⟩ := Option.isSome_iff_exists.1 (List.all_eq_true.1 hin f hm)
          simp only [h1, Option.map_some, hi, Option.getD_some]
      rw [hpe, hpm, q1]
      simp
    · rename_i n e hu
      obtain ⟨inf, hi⟩ := Option.isSome_iff_exists.1 hin
      have hpe : (fun i => some (i * inf.size, inf.size)) = wA P t := by
        funext i
        unfold wA
        rw [hu]
        simp only [hi]
      simp only [run_underlying hu, Result.andThen_ok, Sem.run_bind, gQ hi]
      rw [hpe, hpm, q1]
      simp
    · cases hin
theorem n9 {fn : Fn} {first captured : Array Operand} {xs cs : List Value} (hs : qZ ops S i = some (.makeFunc fn first captured, true)) (hx : evs S first.toList = some xs) (hc : evs S captured.toList = some cs) :
    Does C P ops i S ⟨[], .func fn xs.toArray cs.toArray, []⟩ :=
  .of_run hs fun o ho S' ρ a w hT _ hr => by
    have hx' : evs S' first.toList = some xs := by rw [wD (fun y hy => hT y (by simp [Op.operands]; exact .inl (by simpa using hy)))]; exact hx
    have hc' : evs S' captured.toList = some cs := by rw [wD (fun y hy => hT y (by simp [Op.operands]; exact .inr (by simpa using hy)))]; exact hc
    obtain ⟨e1, e2⟩ := wT hr hx'
    obtain ⟨f1, f2⟩ := wT hr hc'
    refine ⟨_, w, ρ, .func fn (first.map a.eval) (captured.map a.eval), by simp [execOp, ho, Instr.makeFunc], .inl rfl, ?_, hr⟩
    refine .func fn _ _ _ _ (by simpa using e1) (fun j hj => ?_) (by simpa using f1) (fun j hj => ?_)
    · obtain ⟨z, z1, z2⟩ := e2 j xs[j] (List.getElem?_eq_getElem (by simpa using hj))
      have : (first.map a.eval)[j]? = some z := by simpa using z1
      obtain ⟨hj', he⟩ := Array.getElem?_eq_some_iff.1 this
      simp only [List.getElem_toArray]
      rw [he]; exact z2
    · obtain ⟨z, z1, z2⟩ := f2 j cs[j] (List.getElem?_eq_getElem (by simpa using hj))
      have : (captured.map a.eval)[j]? = some z := by simpa using z1
      obtain ⟨hj', he⟩ := Array.getElem?_eq_some_iff.1 this
      simp only [List.getElem_toArray]
      rw [he]; exact z2
end
theorem RenL.flats {σ : Nat → Nat} {p : Nat → Prop} {l : List Value} (h : l.all flatB = true) : RenL σ p l l := .flat (fun v hv => qT (List.all_eq_true.1 h v hv))
theorem RenV.flatB {σ : Nat → Nat} {p : Nat → Prop} {v : Value} (h : flatB v = true) : RenV σ p v v := .flat v (qT h)
theorem RenV.aggL {σ : Nat → Nat} {p : Nat → Prop} {xs ys : Array Value} (h : RenL σ p xs.toList ys.toList) : RenV σ p (.agg xs) (.agg ys) :=
  .agg xs ys (by simpa using h.1) (fun i hi => h.2 i _ _ (by simp) (by have := h.1; simp at this; simp))
theorem RenV.tupleL {σ : Nat → Nat} {p : Nat → Prop} {xs ys : Array Value} (h : RenL σ p xs.toList ys.toList) : RenV σ p (.tuple xs) (.tuple ys) :=
  .tuple xs ys (by simpa using h.1) (fun i hi => h.2 i _ _ (by simp) (by have := h.1; simp at this; simp))
def mX (l : List (Nat × Blk)) : List Nat := (l.filter (·.2.own)).map (·.1)
def tH (m r : Nat) (kpre kpost sl ok : List Nat) : Bool :=
  (List.range m).all (fun j => kpre.any (Nat.beq j)) && kpre.all (fun j => Nat.blt j m) &&
  (List.range (m + r)).all (fun i => (List.range (m + r)).all fun j => Nat.beq i j || !Nat.beq (sl.getD i 0) (sl.getD j 0)) &&
  (List.range' m r).all (fun j => kpost.any (Nat.beq j)) && kpost.all (fun j => Nat.blt j (m + r) && (Nat.ble m j || ok.any (Nat.beq (sl.getD j 0))))
section
variable {C : Ctx} {P : Program} {ops : Array Oper} {i : Nat} {S : St}
theorem fE {x : Operand} {ars : Array Operand} {ats : Array TypeId} {g m r : Nat} {firsts caps : Array Value} {vs args0 : List Value} {pre0 post0 pre post : List (Nat × Blk)} {v0 v : Value} (sl : List Nat)
    (hs : qZ ops S i = some (.call ⟨.value x, ars, ats⟩, true)) (hf : ev S x = some (.func (.func g) firsts caps)) (hargs : evs S ars.toList = some vs) (hg : wJ P g = true)
    (ac : AC P g m args0 pre0 v0 post0) (ha : RenL (fun j => sl.getD j 0) (· < m) args0 (firsts.toList ++ vs ++ caps.toList)) (hpre : RenH (fun j => sl.getD j 0) (· < m) pre0 pre)
    (hpreS : pre.map (fun x => S.H x.1) = pre.map (fun x => .live x.2)) (hk : tH m r (pre0.map (·.1)) (post0.map (·.1)) sl (mX pre) = true)
    (hnew : (List.range' m r).map (fun j => S.H (sl.getD j 0)) = (List.range' m r).map (fun _ => .fresh)) (hpost : RenH (fun j => sl.getD j 0) (· < m + r) post0 post)
    (hv : RenV (fun j => sl.getD j 0) (· < m + r) v0 v) :
    Does C P ops i S ⟨pre.map (·.1) ++ (List.range' m r).map (fun j => sl.getD j 0), v, jA pre post⟩ := by
  unfold tH at hk
  simp only [Bool.and_eq_true] at hk
  obtain ⟨⟨⟨⟨k1, k2⟩, k3⟩, k4⟩, k5⟩ := hk
  refine lF (C := C) (P := P) (m := m) (r := r) (fun j => sl.getD j 0) hs hf hargs hg ac ha hpre (yY hpreS) (fun j hj => any_beq.1 (List.all_eq_true.1 k1 j (List.mem_range.2 hj)))
    (fun j hj => gB (List.all_eq_true.1 k2 j hj)) (fun a b ha hb e => ?_) (fun j h1 h2 => ⟨?_, any_beq.1 (List.all_eq_true.1 k4 j (by rw [List.mem_range'_1]; omega))⟩) hpost (fun j hj => ?_) hv
  · have := List.all_eq_true.1 (List.all_eq_true.1 k3 a (List.mem_range.2 ha)) b (List.mem_range.2 hb)
    rw [Bool.or_eq_true] at this
    rcases this with h | h
    · exact Nat.eq_of_beq_eq_true h
    · have e' : sl.getD a 0 = sl.getD b 0 := e
      rw [e'] at h; simp at h
  · have hm : j ∈ List.range' m r := by rw [List.mem_range'_1]; omega
    have gen : ∀ l : List Nat, l.map (fun j => S.H (sl.getD j 0)) = l.map (fun _ => Cell.fresh) → ∀ j, j ∈ l → S.H (sl.getD j 0) = .fresh := by
      intro l
      induction l with
      | nil => intro _ j hj; cases hj
      | cons x l ih =>
        intro h j hj
        simp only [List.map_cons, List.cons.injEq] at h
        cases hj with
        | head => exact h.1
        | tail _ hj => exact ih h.2 j hj
    exact gen _ hnew j hm
  · have := List.all_eq_true.1 k5 j hj
    rw [Bool.and_eq_true, Bool.or_eq_true] at this
    refine ⟨gB this.1, fun hlt => ?_⟩
    rcases this.2 with h | h
    · have := Nat.le_of_ble_eq_true h; omega
    · have := any_beq.1 h
      unfold mX at this
      obtain ⟨y, hy, he⟩ := List.mem_map.1 this
      obtain ⟨y1, y2⟩ := List.mem_filter.1 hy
      exact ⟨y.2, by rw [← he]; exact y1, y2⟩
end
theorem s6 {P : Program} {α : Type} {t : TypeId} {f : α → Value} {xs : List α} {j : Nat} (d : α) (ha : aggB P t = some false) (hi : (P.info? t).isSome = true) (h : j < xs.length) : ldV P t (xs.map f) j = some (f (xs.getD j d)) := by
  unfold ldV
  obtain ⟨inf, hinf⟩ := Option.isSome_iff_exists.1 hi
  rw [hinf]
  simp only [ha, List.getElem?_map]
  simp [List.getD, List.getElem?_eq_getElem h]
theorem flats_map {α : Type} {f : α → Value} (h : ∀ x, flatB (f x) = true) (xs : List α) : (xs.map f).all flatB = true := by
  rw [List.all_eq_true]
  intro v hv
  obtain ⟨x, _, rfl⟩ := List.mem_map.1 hv
  exact h x
def i64v (x : Int) : Value := .int .i64 x
section
variable {C : Ctx} {P : Program} {ops : Array Oper} {i : Nat} {S : St}
theorem qBH {t t2 : TypeId} {x y : Operand} {k : IntKind} {a b : Int} (hs : qZ ops S i = some (.binOp .quo t x y t2, true)) (hx : ev S x = some (.int k a)) (hy : ev S y = some (.int k b)) (hb : b ≠ 0) :
    Does C P ops i S ⟨[], .int k (IntKind.wrap k (Int.tdiv a b)), []⟩ :=
  .of_run hs fun o ho S' ρ ac w hT _ hr => by
    have h1 := (jM hr (by rw [hT x (by simp [Op.operands])]; exact hx)).eq_of_only (.int _ _)
    have h2 := (jM hr (by rw [hT y (by simp [Op.operands])]; exact hy)).eq_of_only (.int _ _)
    exact ⟨_, w, ρ, .int k (IntKind.wrap k (Int.tdiv a b)), by simp [execOp, ho, h1, h2, eqGuard, binOp, Op.intDiv, hb], .inl rfl, .int _ _, hr⟩
theorem n4 {t t2 : TypeId} {x y : Operand} {k : IntKind} {a b : Int} (hs : qZ ops S i = some (.binOp .rem t x y t2, true)) (hx : ev S x = some (.int k a)) (hy : ev S y = some (.int k b)) (hb : b ≠ 0) :
    Does C P ops i S ⟨[], .int k (Int.tmod a b), []⟩ :=
  .of_run hs fun o ho S' ρ ac w hT _ hr => by
    have h1 := (jM hr (by rw [hT x (by simp [Op.operands])]; exact hx)).eq_of_only (.int _ _)
    have h2 := (jM hr (by rw [hT y (by simp [Op.operands])]; exact hy)).eq_of_only (.int _ _)
    exact ⟨_, w, ρ, .int k (Int.tmod a b), by simp [execOp, ho, h1, h2, eqGuard, binOp, Op.intDiv, hb], .inl rfl, .int _ _, hr⟩
end
theorem jB {α : Type} {a b : α} {l l' : List α} (h : a = b) (t : l = l') : a :: l = b :: l' := by rw [h, t]
theorem not_f {b : Bool} (h : b = false) : (!b) = true := by rw [h]; rfl
theorem bx1 {a b : Bool} (h : (a == b) = true) : (a = true ↔ b = true) := by cases a <;> cases b <;> simp_all
theorem bx2 {a b : Bool} (h : (a == b) = false) : ¬ (a = true ↔ b = true) := by cases a <;> cases b <;> simp_all
open Go Go.RowKit Go.WideShapes Go.ChangeShapes Go.ChangeAt
section
variable {H : Type} {enc : TypeId × Value → H} {P : Program}
/-- The row's last step where 'Below' alone is known of the world behind the call (turned from the guide's own lemma of that use). -/
theorem row_post {f : Func} {s : ChangeSpec} {apart fresh handsOn again : Bool} {W W' : World} {args : Array Value} {v : Value} {ds gs : List (DataW H)} {before pa pv : List MemPlace}
    (hW : DataW.Whole enc P f.params.toList s.vars apart W args.toList ds gs before)
    (hres : ∀ (b : Nat) (sp : Nat → Bool) (hd : Bool), DataW.TrodAll enc P W' b sp hd f.resultTypes.toList (v.resultList f.resultTypes.size) (s.fn H (ds ++ gs)).results [])
    (hargs : ∀ sp : Nat → Bool, (∀ p ∈ before, sp p.block = true) → DataW.TrodAll enc P W' 0 sp true f.params.toList args.toList (s.fn H (ds ++ gs)).args pa)
    (hvars : ∀ sp : Nat → Bool, (∀ p ∈ before, sp p.block = true) → DataW.TrodVars enc P W' sp s.vars (s.fn H (ds ++ gs)).vars pv)
    (hps : before = pa ++ pv) (hb : Below W.heap.size W W')
    (hok : ∀ (j : Nat) (t : TypeId) (r : Value), f.resultTypes[j]? = some t → (v.resultList f.resultTypes.size)[j]? = some r → Value.okWide P W' .any 0 t r) :
    s.post enc P f apart fresh handsOn again W args v W' := by
  have hlt : ∀ p ∈ before, p.block < W.heap.size := fun p hp => hW.lt p hp
  have hold : ∀ p ∈ before, (fun b => decide (b < W.heap.size)) p.block = true := fun p hp => by simpa using hlt p hp
  refine ⟨ds, gs, before, [], pa, pv, hW, hres _ _ _, hargs _ hold, hvars _ hold, World.keptBut_mono (fun p hp => ⟨hp, ?_⟩) (hb.frame (· ∈ before)), fun _ => ?_⟩
  · rw [hps, List.mem_append] at hp
    exact Or.inr hp
  · obtain ⟨_, _, _, _, _, hz, hn⟩ := hW
    refine ⟨hok, _, _, ([] ++ pa) ++ pv, ⟨[] ++ pa, pv, trodAll_append (hargs _ (fun _ _ => rfl)) (hres _ _ _), hvars _ (fun _ _ => rfl), rfl, ?_, ?_⟩, ?_⟩
    · intro b off hp
      have hin : MemPlace.cell b off ∈ before := by rw [hps]; simpa using hp
      rw [hb.frozen (hlt _ hin)]
      exact hz b off hin
    · intro ha
      have := hn ha
      rw [hps] at this
      simpa using this
    · intro p hp _
      rw [hps]
      simpa using hp
end
theorem wL {w w' : World} {W : Nat → Prop} (h : FrameOk w W w') (hn : ∀ b, b < w.heap.size → ¬ W b) : Below w.heap.size w w' :=
  ⟨h.os, h.tape, h.output, h.size, fun k hk => h.block k hk (hn k hk)⟩
/-- A law over plain values. -/
theorem law_calls {P : Program} {f : FuncId} {args : List Value} {b : Bool} (ac : AC P f 0 args [] (.bool b) []) (hf : args.all flatB = true) (w : World) :
    Calls P f args.toArray w fun e w' => e = .returned (.bool b) ∧ Below w.heap.size w w' := by
  refine (ac (fun _ => none) w args.toArray (by simp) (fun j u hu => ⟨u, by simpa using hu, .of_only (qT (List.all_eq_true.1 hf u (List.mem_of_getElem? hu)))⟩)
    ⟨fun _ _ hk => (List.not_mem_nil hk).elim, fun _ _ _ _ _ _ _ hk => (List.not_mem_nil hk).elim⟩ (fun k hk => by omega) (fun _ _ => rfl)).mono ?_
  rintro e w' ⟨v', ρ', rfl, hv, _, _, _, hfr⟩
  cases hv
  exact ⟨rfl, wL hfr (fun b _ => by rintro ⟨k, b, sp, hm, _⟩; exact (List.not_mem_nil hm).elim)⟩
open Go Go.RowKit Go.WideShapes Go.ChangeShapes Go.ChangeAt
inductive LK | int (k : IntKind) | bool | str
def qAL (P : Program) (rec : TypeId → Option (List LK)) : Nat → List Field → Option (List LK)
  | _, [] => some []
  | off, f :: fs => if f.offset = off then
      match rec f.type with
      | none => none
      | some l => if P.cellsOf f.type = l.length then
          match qAL P rec (off + l.length) fs with
          | none => none
          | some r => some (l ++ r)
        else none
    else none
def qE8 (P : Program) : Nat → TypeId → Option (List LK)
  | 0, _ => none
  | n + 1, t => match P.underlying t with
    | some (.int k) => some [.int k]
    | some .bool => some [.bool]
    | some .string => some [.str]
    | some (.struct fs) => match qAL P (qE8 P n) 0 fs.toList with
      | none => none
      | some l => if P.cellsOf t = l.length then some l else none
    | _ => none
def gC : List LK → List Value → Prop
  | [], cs => cs = []
  | .int k :: ks, cs => ∃ n cs', cs = .int k n :: cs' ∧ (Lit.int k n).wf = true ∧ gC ks cs'
  | .bool :: ks, cs => ∃ b cs', cs = .bool b :: cs' ∧ gC ks cs'
  | .str :: ks, cs => ∃ s cs', cs = .string s :: cs' ∧ s.size ≤ maxLen ∧ gC ks cs'
theorem gC.append : ∀ {ks ks' : List LK} {a b : List Value}, gC ks a → gC ks' b → gC (ks ++ ks') (a ++ b)
  | [], _, _, _, h, h' => by cases h; exact h'
  | .int _ :: _, _, _, _, ⟨n, cs', e, hw, h⟩, h' => by subst e; exact ⟨n, _, rfl, hw, h.append h'⟩
  | .bool :: _, _, _, _, ⟨b, cs', e, h⟩, h' => by subst e; exact ⟨b, _, rfl, h.append h'⟩
  | .str :: _, _, _, _, ⟨s, cs', e, hs, h⟩, h' => by subst e; exact ⟨s, _, rfl, hs, h.append h'⟩
section
variable {H : Type} {enc : TypeId × Value → H} {P : Program}
theorem mapM_of {α β : Type} {g : α → Option β} : ∀ {l : List α} {xs : List β}, xs.length = l.length → (∀ (j : Nat) (a : α), l[j]? = some a → g a = xs[j]?) → l.mapM g = some xs
  | [], [], _, _ => by simp
  | a :: l, x :: xs, hl, h => by
    have h0 := h 0 a rfl
    have ht := mapM_of (g := g) (l := l) (xs := xs) (by simpa using hl) (fun j b hb => by simpa using h (j + 1) b (by simpa using hb))
    simp at h0
    simp [h0, ht]
  | [], _ :: _, hl, _ => by simp at hl
  | _ :: _, [], hl, _ => by simp at hl
theorem qDL : ∀ (n : Nat) {t : TypeId} {ks : List LK} {w : World} {base : Nat} {spare : Nat → Bool} {held : Bool} {fuel : Nat} {cs : List Value} {x : DataW H × List MemPlace},
    qE8 P n t = some ks → DataW.trod enc P w base spare held fuel t cs = some x →
    gC ks cs ∧ x.2 = [] ∧ ∀ (w' : World) (base' : Nat) (spare' : Nat → Bool) (held' : Bool), DataW.trod enc P w' base' spare' held' fuel t cs = some x := by
  intro n
  induction n with
  | zero => intro t ks w base spare held fuel cs x hl; simp [qE8] at hl
  | succ n ih =>
    intro t ks w base spare held fuel cs x hl h
    have same : ∀ (w' : World) (base' : Nat) (spare' : Nat → Bool) (held' : Bool), (∀ q, P.underlying t = some q → (∃ k, q = .int k) ∨ q = .bool ∨ q = .string) → (∃ q, P.underlying t = some q) → DataW.trod enc P w' base' spare' held' fuel t cs = some x := by
      intro w' base' spare' held' hq ⟨q, hu⟩
      cases fuel with
      | zero => simp [DataW.trod] at h
      | succ m =>
        unfold DataW.trod at h ⊢
        rw [hu] at h ⊢
        rcases hq q hu with ⟨k, rfl⟩ | rfl | rfl
        · split at h <;> simp_all
        · split at h <;> simp_all
        · split at h <;> simp_all
    unfold qE8 at hl
    split at hl
    · rename_i k hu
      cases hl
      obtain ⟨m, rfl, rfl, hw⟩ := DataW.trod_int hu h
      exact ⟨⟨m, [], rfl, hw, rfl⟩, rfl, fun a b c d => same a b c d (fun q hq => .inl ⟨k, by rw [hu] at hq; exact (Option.some.inj hq).symm⟩) ⟨_, hu⟩⟩
    · rename_i hu
      cases hl
      obtain ⟨m, rfl, rfl⟩ := DataW.trod_bool hu h
      exact ⟨⟨m, [], rfl, rfl⟩, rfl, fun a b c d => same a b c d (fun q hq => .inr (.inl (by rw [hu] at hq; exact (Option.some.inj hq).symm))) ⟨_, hu⟩⟩
    · rename_i hu
      cases hl
      obtain ⟨m, rfl, rfl, hs⟩ := DataW.trod_string hu h
      exact ⟨⟨m, [], rfl, hs, rfl⟩, rfl, fun a b c d => same a b c d (fun q hq => .inr (.inr (by rw [hu] at hq; exact (Option.some.inj hq).symm))) ⟨_, hu⟩⟩
    · rename_i fs hu
      split at hl
      · cases hl
      rename_i l hlf
      split at hl
      case isFalse => cases hl
      rename_i hc
      cases hl
      obtain ⟨xs, m, rfl, rfl, hcl, hlen, hf⟩ := DataW.trod_struct hu h
      have aux : ∀ (fl : List Field) (off : Nat) (ks' : List LK) (xl : List (DataW H × List MemPlace)), qAL P (qE8 P n) off fl = some ks' → (cs.drop off).length = ks'.length → xl.length = fl.length →
          (∀ (j : Nat) (f : Field), fl[j]? = some f → DataW.trod enc P w base spare held m f.type ((cs.drop f.offset).take (P.cellsOf f.type)) = xl[j]?) →
          gC ks' (cs.drop off) ∧ xl.flatMap (·.2) = [] ∧ ∀ (w' : World) (base' : Nat) (spare' : Nat → Bool) (held' : Bool) (j : Nat) (f : Field), fl[j]? = some f → DataW.trod enc P w' base' spare' held' m f.type ((cs.drop f.offset).take (P.cellsOf f.type)) = xl[j]? := by
        intro fl
        induction fl with
        | nil =>
          intro off ks' xl h1 h2 h3 _
          cases h1
          cases xl with
          | nil => exact ⟨List.length_eq_zero_iff.1 h2, rfl, fun _ _ _ _ j f hj => by simp at hj⟩
          | cons _ _ => simp at h3
        | cons f fl ihf =>
          intro off ks' xl h1 h2 h3 h4
          cases xl with
          | nil => simp at h3
          | cons y xl =>
            unfold qAL at h1
            split at h1
            case isFalse => cases h1
            rename_i ho
            split at h1
            · cases h1
            rename_i l1 hl1
            split at h1
            case isFalse => cases h1
            rename_i hc1
            split at h1
            · cases h1
            rename_i r hr
            cases h1
            have y0 := h4 0 f rfl
            simp only [List.getElem?_cons_zero] at y0
            obtain ⟨g1, g2, g3⟩ := ih hl1 y0
            have hlen1 : (cs.drop (off + l1.length)).length = r.length := by
              rw [← List.drop_drop, List.length_drop, h2, List.length_append]; omega
            obtain ⟨k1, k2, k3⟩ := ihf (off + l1.length) r xl hr hlen1 (by simpa using h3) (fun j f' hj => by simpa using h4 (j + 1) f' (by simpa using hj))
            refine ⟨?_, by simp [g2, k2], ?_⟩
            · rw [ho, hc1] at g1
              have := g1.append k1
              rwa [← List.drop_drop, List.take_append_drop] at this
            · intro w' base' spare' held' j f' hj
              cases j with
              | zero => simp at hj; subst hj; simpa using g3 w' base' spare' held'
              | succ j => simpa using k3 w' base' spare' held' j f' (by simpa using hj)
      obtain ⟨k1, k2, k3⟩ := aux fs.toList 0 ks xs hlf (by simpa using hcl.trans hc) (by simpa using hlen) (fun j f hj => hf j f (by simpa using hj))
      refine ⟨by simpa using k1, k2, fun w' base' spare' held' => ?_⟩
      exact trod_struct_mk hu hcl (mapM_of (by simpa using hlen) (fun j f hj => k3 w' base' spare' held' j f hj))
    · cases hl
end
section
variable {C : Ctx} {P : Program} {Q : Exit → St → Prop}
/-- A loop: a family of states with a condition, a measure. -/
theorem jS {ι : Type} {x : Code} (I : ι → St) (hyp : ι → Prop) (μ : ι → Nat)
    (round : ∀ i, hyp i → (∀ j, hyp j → μ j < μ i → AL C P x (I j) Q) → AL C P x (I i) Q) (i : ι) (h : hyp i) : AL C P x (I i) Q := by
  have key : ∀ n i, hyp i → μ i < n → AL C P x (I i) Q := by
    intro n
    induction n with
    | zero => intro i _ h; omega
    | succ n ih => intro i hi hn; exact round i hi (fun j hj hm => ih j hj (by omega))
  exact key (μ i + 1) i h (by omega)
end
section
variable {C : Ctx} {P : Program} {ops : Array Oper} {i : Nat} {S : St}
end
open Go Go.RowKit Go.WideShapes Go.ChangeShapes Go.ChangeAt Go.Deep
section
variable {H : Type} {enc : TypeId × Value → H} {P : Program}
theorem open_rows {n : Nat} {t e : TypeId} {ks : List LK} {w : World} {v : Value} {d : DataW H} {p : List MemPlace} (ht : P.underlying t = some (.slice e)) (hl : qE8 P n e = some ks) (hz : P.cellsOf e = ks.length) (hk : 0 < ks.length)
    (hv : ∃ a l c, v = .slice a l c) (h : DataW.Trod enc P w 0 (fun _ => true) true t v d p) :
    ∃ (rows : List (List Value)) (sp : Spot), (∀ r ∈ rows, gC ks r ∧ r.length = ks.length) ∧ rows.length ≤ maxLen ∧
      ∀ (ρ : Ren) (k : Nat), ρ k = some sp → VRel ρ (.slice (some ⟨k, 0, none⟩) rows.length 0) v ∧ jC ρ w sp ⟨rows.flatten, e, false, ks.length⟩ := by
  obtain ⟨a0, l0, c0, rfl⟩ := hv
  obtain ⟨fuel, hf⟩ := h
  have none' : ∀ (A : Option Addr) (sp : Spot), sp.step = ks.length → ∀ (ρ : Ren) (k : Nat), ρ k = some sp → VRel ρ (.slice (some ⟨k, 0, none⟩) ([] : List (List Value)).length 0) (.slice A 0 0) ∧ jC ρ w sp ⟨([] : List (List Value)).flatten, e, false, ks.length⟩ := by
    intro A sp hs ρ k _
    exact ⟨.slice0 k 0 0 A, (jC.ro (by simp)).2 ⟨hs, .inl rfl, fun i u hu => by simp at hu⟩⟩
  rcases open_slice ht hf with ⟨hcs, hx⟩ | ⟨a, len, cap, m, n', D, Pl, hcs, hb, hlen, hm, hmm, hx, hi⟩
  · simp [Value.cells] at hcs
    obtain ⟨rfl, rfl, rfl⟩ := hcs
    exact ⟨[], ⟨0, 0, 0, ks.length⟩, by simp, by simp, none' none _ rfl⟩
  · simp [Value.cells] at hcs
    obtain ⟨rfl, rfl, rfl⟩ := hcs
    simp only [if_true] at hmm
    subst hmm
    rcases Nat.eq_zero_or_pos m with rfl | hpos
    · obtain rfl : l0 = 0 := by omega
      exact ⟨[], ⟨0, 0, 0, ks.length⟩, by simp, by simp, none' (some a) _ rfl⟩
    · have row : ∀ i, ∃ r : List Value, i < m → r.length = ks.length ∧ gC ks r ∧ ∀ j, j < ks.length → w.cell? (a.add (i * ks.length + j)) = r[j]? := by
        intro i
        by_cases him : i < m
        · obtain ⟨cs', h1, h2⟩ := hi i him
          obtain ⟨_, h3, h4⟩ := World.cells?_some h1
          rw [hz] at h3 h4
          refine ⟨cs', fun _ => ⟨h3, (qDL n hl h2).1, fun j hj => ?_⟩⟩
          rw [← Go.Deep.add_add]; exact h4 j hj
        · exact ⟨[], fun q => absurd q him⟩
      obtain ⟨R, hR⟩ : ∃ R : Nat → List Value, ∀ i, i < m → (R i).length = ks.length ∧ gC ks (R i) ∧ ∀ j, j < ks.length → w.cell? (a.add (i * ks.length + j)) = (R i)[j]? := ⟨fun i => (row i).choose, fun i => (row i).choose_spec⟩
      have c0 := (hR 0 hpos).2.2 0 hk
      have hsome : (R 0)[0]? = some ((R 0)[0]'(by rw [(hR 0 hpos).1]; exact hk)) := List.getElem?_eq_getElem _
      rw [hsome] at c0
      have hspot : a.spot = none ∧ a.block < w.heap.size := by
        simp only [Nat.zero_mul, Nat.add_zero, Addr.add, if_true] at c0
        unfold World.cell? at c0
        split at c0
        · rename_i hg
          split at c0
          · cases c0
          · rename_i hs
            exact ⟨by simpa using hs, (Array.getElem?_eq_some_iff.1 hg).1⟩
        · cases c0
      obtain ⟨ab, ao, as⟩ := a
      obtain ⟨rfl, hlt⟩ : as = none ∧ ab < w.heap.size := hspot
      refine ⟨(List.range l0).map R, ⟨ab, ao, m * ks.length, ks.length⟩, ?_, by simp; omega, ?_⟩
      · intro r hr
        obtain ⟨i, hi', rfl⟩ := List.mem_map.1 hr
        have := hR i (by have := List.mem_range.1 hi'; omega)
        exact ⟨this.2.1, this.1⟩
      · intro ρ k hρ
        refine ⟨?_, ?_⟩
        · have := VRel.slice (ρ := ρ) k 0 ((List.range l0).map R).length 0 m ⟨ab, ao, m * ks.length, ks.length⟩ hρ (by simpa using hlen) (by simp)
          simpa using this
        · rw [jC.ro (by simp)]
          refine ⟨rfl, .inr hlt, fun i u hu => ?_⟩
          have flat : ∀ (q : Nat) (i : Nat) (u : Value), q ≤ m → (((List.range q).map R).flatten)[i]? = some u → ∃ r j, i = r * ks.length + j ∧ r < q ∧ j < ks.length ∧ (R r)[j]? = some u := by
            intro q
            induction q with
            | zero => intro i u _ hu; simp at hu
            | succ q ihq =>
              intro i u hq hu
              rw [List.range_succ, List.map_append, List.flatten_append] at hu
              have hlenq : (((List.range q).map R).flatten).length = q * ks.length := by
                clear hu ihq
                induction q with
                | zero => simp
                | succ q ih2 =>
                  rw [List.range_succ, List.map_append, List.flatten_append, List.length_append, ih2 (by omega)]
                  simp only [List.map_cons, List.map_nil, List.flatten_cons, List.flatten_nil, List.append_nil]
                  rw [(hR q (by omega)).1, Nat.succ_mul]
              by_cases hlt' : i < q * ks.length
              · rw [List.getElem?_append_left (by omega)] at hu
                obtain ⟨r, j, e1, e2, e3, e4⟩ := ihq i u (by omega) hu
                exact ⟨r, j, e1, by omega, e3, e4⟩
              · rw [List.getElem?_append_right (by omega), hlenq] at hu
                simp only [List.map_cons, List.map_nil, List.flatten_cons, List.flatten_nil, List.append_nil] at hu
                have hj : i - q * ks.length < ks.length := by
                  have := (List.getElem?_eq_some_iff.1 hu).1
                  rw [(hR q (by omega)).1] at this; exact this
                exact ⟨q, i - q * ks.length, by omega, by omega, hj, hu⟩
          obtain ⟨r, j, e1, e2, e3, e4⟩ := flat l0 i u (by omega) hu
          have hc := (hR r (by omega)).2.2 j e3
          rw [e4] at hc
          refine ⟨u, ?_, ?_⟩
          · show w.cell? ⟨ab, ao + i, none⟩ = some u
            rw [e1, ← hc]
            unfold Addr.add
            split
            · rename_i h0; rw [h0]; rfl
            · rfl
          · have lk := (hR r (by omega)).2.1
            have only : ∀ (ks : List LK) (cs : List Value), gC ks cs → ∀ u ∈ cs, VRel ρ u u := by
              intro ks
              induction ks with
              | nil => intro cs h u hu; cases h; simp at hu
              | cons x ks ih =>
                intro cs h u hu
                cases x with
                | int k =>
                  obtain ⟨n, cs', rfl, _, h'⟩ := h
                  rcases List.mem_cons.1 hu with rfl | hu
                  · exact .int _ _
                  · exact ih cs' h' u hu
                | bool =>
                  obtain ⟨n, cs', rfl, h'⟩ := h
                  rcases List.mem_cons.1 hu with rfl | hu
                  · exact .bool _
                  · exact ih cs' h' u hu
                | str =>
                  obtain ⟨n, cs', rfl, _, h'⟩ := h
                  rcases List.mem_cons.1 hu with rfl | hu
                  · exact .string _
                  · exact ih cs' h' u hu
            exact only ks _ lk u (List.mem_of_getElem? e4)
end
open Go Go.RowKit Go.WideShapes Go.ChangeShapes Go.ChangeAt
def RelL (ρ : Ren) (us xs : List Value) : Prop := us.length = xs.length ∧ ∀ (j : Nat) (u : Value), us[j]? = some u → ∃ x, xs[j]? = some x ∧ VRel ρ u x
theorem RelL.nil {ρ : Ren} : RelL ρ [] [] := ⟨rfl, fun j u h => by simp at h⟩
theorem RelL.cons {ρ : Ren} {u x : Value} {us xs : List Value} (h : VRel ρ u x) (t : RelL ρ us xs) : RelL ρ (u :: us) (x :: xs) :=
  ⟨by simp [t.1], fun j u' hu => by
    cases j with
    | zero => simp at hu; subst hu; exact ⟨x, rfl, h⟩
    | succ j => exact t.2 j u' (by simpa using hu)⟩
theorem rel_flat {ρ : Ren} {u : Value} (h : flatB u = true) : VRel ρ u u := .of_only (qT h)
theorem law_calls2 {P : Program} {f : FuncId} {args xs : List Value} {pre : List (Nat × Blk)} {spots : List Spot} {b : Bool} (ac : AC P f spots.length args pre (.bool b) []) (w : World)
    (ha : RelL (fun k => spots[k]?) args xs) (hp : ∀ k b, (k, b) ∈ pre → b.own = false ∧ ∃ sp, spots[k]? = some sp ∧ jC (fun k => spots[k]?) w sp b) :
    Calls P f xs.toArray w fun e w' => e = .returned (.bool b) ∧ Below w.heap.size w w' := by
  refine (ac (fun k => spots[k]?) w xs.toArray (by simpa using ha.1) (fun j u hu => by obtain ⟨x, h1, h2⟩ := ha.2 j u hu; exact ⟨x, by simpa using h1, h2⟩)
    ⟨fun k b hk => (hp k b hk).2, fun k k' b b' sp sp' _ hk _ ho => by rw [(hp k b hk).1] at ho; cases ho⟩ (fun k hk => ⟨spots[k], List.getElem?_eq_getElem hk⟩) (fun k hk => List.getElem?_eq_none hk)).mono ?_
  rintro e w' ⟨v', ρ', rfl, hv, _, _, _, hfr⟩
  cases hv
  exact ⟨rfl, wL hfr (fun b _ => by rintro ⟨k, b, sp, hm, ho, _⟩; rw [(hp k b hm).1] at ho; cases ho)⟩
def PreOk (ρ : Ren) (w : World) (L : List (Nat × Blk)) : Prop := ∀ k b, (k, b) ∈ L → b.own = false ∧ ∃ sp, ρ k = some sp ∧ jC ρ w sp b
theorem PreOk.nil {ρ : Ren} {w : World} : PreOk ρ w [] := fun _ _ h => by cases h
theorem PreOk.cons {ρ : Ren} {w : World} {k : Nat} {b : Blk} {sp : Spot} {L : List (Nat × Blk)} (ho : b.own = false) (hs : ρ k = some sp) (hb : jC ρ w sp b) (t : PreOk ρ w L) : PreOk ρ w ((k, b) :: L) := fun k' b' h => by
  rcases List.mem_cons.1 h with e | h
  · cases e; exact ⟨ho, sp, hs, hb⟩
  · exact t k' b' h
/-- rows of one number -/
theorem rows_int : ∀ (rows : List (List Value)), (∀ r ∈ rows, gC [.int .i64] r ∧ r.length = 1) → ∃ xs : List Int, rows.length = xs.length ∧ rows.flatten = xs.map i64v ∧ ∀ x ∈ xs, (Lit.int .i64 x).wf = true
  | [], _ => ⟨[], rfl, rfl, by simp⟩
  | r :: rows, h => by
    obtain ⟨xs, h1, h2, h3⟩ := rows_int rows (fun q hq => h q (List.mem_cons_of_mem _ hq))
    obtain ⟨⟨n, cs', rfl, hw, hc⟩, _⟩ := h r List.mem_cons_self
    cases hc
    exact ⟨n :: xs, by simp [h1], by simp [h2, i64v], by simpa using ⟨hw, h3⟩⟩
/-- rows of two numbers -/
def ptc (p : Int × Int) : List Value := [.int .i64 p.1, .int .i64 p.2]
theorem qA (ps : List (Int × Int)) : (ps.flatMap ptc).all flatB = true := by
  rw [List.all_eq_true]
  intro v hv
  obtain ⟨p, _, hp⟩ := List.mem_flatMap.1 hv
  simp only [ptc, List.mem_cons, List.not_mem_nil, or_false] at hp
  rcases hp with rfl | rfl <;> rfl
theorem fA : ∀ (ps : List (Int × Int)) (j : Nat), (ps.flatMap ptc).drop (2 * j) = (ps.drop j).flatMap ptc
  | _, 0 => rfl
  | [], j + 1 => by simp
  | p :: ps, j + 1 => by
    have := fA ps j
    rw [Nat.mul_succ]
    simpa [List.flatMap_cons, ptc] using this
theorem pairs_length (ps : List (Int × Int)) : (ps.flatMap ptc).length = 2 * ps.length := by
  induction ps with
  | nil => rfl
  | cons p ps ih => rw [List.flatMap_cons, List.length_append, ih]; simp [ptc]; omega
/-- A pair read at a place of a row of pairs. -/
theorem qL {P : Program} {t : TypeId} {ps : List (Int × Int)} {off j : Nat} (ha : aggB P t = some true) (hi : (P.info? t).map (·.size) = some 2) (ho : off = 2 * j) (h : j < ps.length) :
    ldV P t (ps.flatMap ptc) off = some (.agg #[.int .i64 (ps.getD j (0, 0)).1, .int .i64 (ps.getD j (0, 0)).2]) := by
  unfold ldV
  obtain ⟨inf, hinf, hsz⟩ := Option.map_eq_some_iff.1 hi
  rw [hinf]
  simp only [ha, hsz]
  have hb : Nat.ble (off + 2) (ps.flatMap ptc).length = true := Nat.ble_eq_true_of_le (by rw [pairs_length]; omega)
  rw [hb]
  subst ho
  have e : ((ps.flatMap ptc).drop (2 * j)).take 2 = [.int .i64 (ps[j]).1, .int .i64 (ps[j]).2] := by
    rw [fA, List.drop_eq_getElem_cons h, List.flatMap_cons]; rfl
  rw [e]
  simp [List.getD, List.getElem?_eq_getElem h]
def sub1 : Code → Bool → Code
  | .seq x y, b => bif b then y else x
  | .cond _ x y, b => bif b then y else x
  | .block _ x, _ => x
  | .loop x, _ => x
  | c, _ => c
def sbF (f : Func) : Nat → Nat → Code
  | 0, _ => mK f
  | k + 1, n => bif Nat.ble n 1 then mK f else sub1 (sbF f k (n / 2)) (Nat.beq (n % 2) 1)
/-- the code at a place of a body: a number whose bits, behind the first one, are the path -/
def sb (f : Func) (n : Nat) : Code := sbF f 64 n
def okInt (v : Value) : Option Int := match v with | .int _ n => some n | _ => none
def mmOf (c : Call) : Option (Bool × List Operand) := match c.callee with
  | .builtin b => match b with
    | .min => some (true, c.args.toList)
    | .max => some (false, c.args.toList)
    | _ => none
  | _ => none
def mmGo (b : Bool) (k : IntKind) (e : Operand → Value) : List Operand → Int → Option Value
  | [], a => some (.int k a)
  | y :: l, a => match e y with
    | .int _ c => mmGo b k e l (bif b then (if c < a then c else a) else (if c > a then c else a))
    | _ => none
/-- values of arithmetic; what it tells is checked against the model where it is used -/
def pv (P : Program) (op : Op) (e : Operand → Value) : Option Value := match op with
  | .binOp o t x y _ => match e x, e y with
    | .int k a, .int _ b => match o with
      | .add => some (.int k (IntKind.wrap k (a + b)))
      | .sub => some (.int k (IntKind.wrap k (a - b)))
      | .mul => some (.int k (IntKind.wrap k (a * b)))
      | .quo => some (.int k (IntKind.wrap k (Int.tdiv a b)))
      | .rem => some (.int k (Int.tmod a b))
      | .and => some (.int k (IntKind.wrap k ((BitVec.ofInt k.bits a &&& BitVec.ofInt k.bits b).toNat : Int)))
      | .or => some (.int k (IntKind.wrap k ((BitVec.ofInt k.bits a ||| BitVec.ofInt k.bits b).toNat : Int)))
      | .xor => some (.int k (IntKind.wrap k ((BitVec.ofInt k.bits a ^^^ BitVec.ofInt k.bits b).toNat : Int)))
      | .andNot => some (.int k (IntKind.wrap k ((BitVec.ofInt k.bits a &&& ~~~ BitVec.ofInt k.bits b).toNat : Int)))
      | .shl => some (.int k (IntKind.wrap k (a * 2 ^ (min b.toNat k.bits))))
      | .shr => some (.int k (Int.fdiv a (2 ^ (min b.toNat k.bits))))
      | .eql => some (.bool (a == b))
      | .neq => some (.bool (a != b))
      | .lss => some (.bool (decide (a < b)))
      | .leq => some (.bool (decide (a ≤ b)))
      | .gtr => some (.bool (decide (a > b)))
      | .geq => some (.bool (decide (a ≥ b)))
    | .bool a, .bool b => match o with
      | .eql => some (.bool (a == b))
      | .neq => some (.bool (!(a == b)))
      | _ => none
    | u, v => match o with
      | .eql => (eqT P 64 t u v).map .bool
      | .neq => (eqT P 64 t u v).map (fun b => .bool (!b))
      | _ => none
  | .unOp o _ x => match e x with
    | .bool a => match o with
      | .not => some (.bool (!a))
      | _ => none
    | .int k a => match o with
      | .neg => some (.int k (IntKind.wrap k (0 - a)))
      | .xor => some (.int k (IntKind.wrap k ((BitVec.ofInt k.bits (bif (match k with | .i64 | .i32 | .i16 | .i8 => true | _ => false) then -1 else ((2 ^ k.bits - 1 : Nat) : Int)) ^^^ BitVec.ofInt k.bits a).toNat : Int)))
      | _ => none
    | _ => none
  | .convert _ d x => match P.underlying d, e x with
    | some (.int k), .int _ a => some (.int k (IntKind.wrap k a))
    | _, _ => none
  | .call c => match mmOf c with
    | some (b, x :: l) => match e x with
      | .int k a => mmGo b k e l a
      | _ => none
    | _ => none
  | _ => none
def isPv (op : Op) : Bool := match op with
  | .binOp _ _ _ _ _ | .unOp _ _ _ | .convert _ _ _ => true
  | .call c => (mmOf c).isSome
  | _ => false
/-- the builtin len -/
def lenOf (op : Op) : Option (Operand × TypeId) := match op with
  | .call c => match c.callee with
    | .builtin b => match b with
      | .len => match c.args.toList, c.argTypes.toList with
        | [x], [t] => some (x, t)
        | _, _ => none
      | _ => none
    | _ => none
  | _ => none
theorem qE6 {op : Op} {x : Operand} {t : TypeId} (h : lenOf op = some (x, t)) : op = .call ⟨.builtin .len, #[x], #[t]⟩ := by
  unfold lenOf at h
  split at h
  · rename_i c
    obtain ⟨cal, ars, ats⟩ := c
    simp only at h
    split at h
    · split at h
      · split at h
        · rename_i h1 h2
          cases h
          have e1 : ars = #[x] := by rw [← Array.toArray_toList (xs := ars), h1]
          have e2 : ats = #[t] := by rw [← Array.toArray_toList (xs := ats), h2]
          rw [e1, e2]
        · cases h
      · cases h
    · cases h
  · cases h
def one (v : Value) (nid : Nat) : Option (Step × Nat) := some (⟨[], v, []⟩, nid)
def concB (j : Int) (n : Nat) : Bool := match j with
  | .ofNat a => Nat.blt a n
  | .negSucc _ => false
theorem mC {j : Int} {n : Nat} (h : concB j n = true) : 0 ≤ j ∧ j < n := by
  unfold concB at h
  split at h
  · have := gB h; exact ⟨Int.natCast_nonneg _, by simpa using this⟩
  · cases h
/-- the size of an element: of an array's, or the whole -/
def stepOf (P : Program) (t : TypeId) (n : Nat) : Nat := match qD5 P t, gA P t with
  | some _, some z => z
  | _, _ => n
/-- What operation i does in state S, 'nid' being a number that is not taken yet. -/
def uW (P : Program) (ops : Array Oper) (S : St) (nid i : Nat) : Option (Step × Nat) :=
  match qZ ops S i with
  | none => none
  | some (_, false) => some (⟨[], undef, []⟩, nid)
  | some (op, true) => match op with
    | .move x => (ev S x).bind fun v => one v nid
    | .assign x => (ev S x).bind fun v => one v nid
    | .pick c x y => match ev S c with
      | some (.bool b) => (ev S (bif b then x else y)).bind fun v => one v nid
      | _ => none
    | .nilCheck x => match ev S x with
      | some (.pointer (some A)) => one (.pointer (some A)) nid
      | _ => none
    | .extract x n => match ev S x with
      | some (.tuple vs) => (vs[n]?).bind fun v => one v nid
      | _ => none
    | .fieldAddr s x f => match ev S x with
      | some (.pointer (some ⟨k, off, none⟩)) => (nR P s f).bind fun d => one (.pointer (some ⟨k, off + d, none⟩)) nid
      | _ => none
    | .indexAddr t x y => match ev S x, ev S y with
      | some (.pointer (some ⟨k, off, none⟩)), some (.int _ j) => match qD5 P t, gA P t with
        | some n, some z => bif concB j n then one (.pointer (some ⟨k, off + j.toNat * z, none⟩)) nid else none
        | _, _ => none
      | some (.slice (some ⟨k, off, none⟩) n _), some (.int _ j) => match gA P t with
        | some z => bif concB j n && slcB P t then one (.pointer (some ⟨k, off + j.toNat * z, none⟩)) nid else none
        | _ => none
      | _, _ => none
    | .load t x => match ev S x with
      | some (.pointer (some ⟨k, off, none⟩)) => match S.H k with
        | .live b => (ldV P t b.cells off).bind fun v => some (⟨[k], v, []⟩, nid)
        | _ => none
      | _ => none
    | .store t x y => match ev S x, ev S y with
      | some (.pointer (some ⟨k, off, none⟩)), some v => match S.H k with
        | .live b => bif b.own && vK v.cells.toList && Nat.ble (off + v.cells.toList.length) b.cells.length && (match (P.info? t).map (·.size) with | some z => Nat.beq z v.cells.toList.length | none => false)
            then some (⟨[k], undef, [(k, .live ⟨setL b.cells off v.cells.toList, b.elem, true, b.step⟩)]⟩, nid) else none
        | _ => none
      | _, _ => none
    | .alloc t => match S.H nid, zeroOf P t with
      | .fresh, some v => bif flatB v then some (⟨[nid], .pointer (some ⟨nid, 0, none⟩), [(nid, .live ⟨v.cells.toList, t, true, stepOf P t v.cells.toList.length⟩)]⟩, nid + 1) else none
      | _, _ => none
    | .box t x => match S.H nid, ev S x with
      | .fresh, some v => some (⟨[nid], .pointer (some ⟨nid, 0, none⟩), [(nid, .live ⟨v.cells.toList, t, true, stepOf P t v.cells.toList.length⟩)]⟩, nid + 1)
      | _, _ => none
    | .build t parts => match zeroOf P t, evP S parts.toList with
      | some z, some ps => match eC (wA P t) ps z.cells.toList with
        | some cells => bif z.cells.toList.all flatB && infosB P t then one (.agg cells.toArray) nid else none
        | none => none
      | _, _ => none
    | .buildSlice t n parts => match S.H nid, vF P t, evP S parts.toList with
      | .fresh, some e, some ps => match (P.info? e).map (·.size), sM P e n with
        | some z, some zs => match eC (fun i => some (i * z, z)) ps zs with
          | some cells => bif zs.all flatB && Nat.beq cells.length (n * z) && Nat.ble (n * z) 16777216 then some (⟨[nid], .slice (some ⟨nid, 0, none⟩) n 0, [(nid, .live ⟨cells, e, true, z⟩)]⟩, nid + 1) else none
          | none => none
        | _, _ => none
      | _, _, _ => none
    | .makeFunc fn a b => match evs S a.toList, evs S b.toList with
      | some xs, some cs => one (.func fn xs.toArray cs.toArray) nid
      | _, _ => none
    | op => match lenOf op with
      | some (x, t) => match ev S x with
        | some (.slice (some ⟨_, _, none⟩) n _) => bif slcB P t then one (.int .i64 n) nid else none
        | some (.slice none 0 0) => bif slcB P t then one (.int .i64 0) nid else none
        | _ => none
      | none => bif isPv op && pureB ops S i then (pv P op (eyes S)).bind fun v => bif flatB v then one v nid else none else none
/-- what is left to be checked against the model, world by world -/
def chkL (P : Program) (ops : Array Oper) (S : St) (i : Nat) (w : World) : Result Next := match qZ ops S i with
  | some (op, true) => bif isPv op then (execAt ops i (eyes S)).run P w else .ok .skip w
  | _ => .ok .skip w
def chkR (P : Program) (ops : Array Oper) (S : St) (i : Nat) (w : World) : Result Next := match qZ ops S i with
  | some (op, true) => bif isPv op then (match pv P op (eyes S) with | some v => .ok (.value v) w | none => .ok .skip w) else .ok .skip w
  | _ => .ok .skip w
theorem cR {v : Value} {nid nid' : Nat} {s : Step} (h : one v nid = some (s, nid')) : s = ⟨[], v, []⟩ := by unfold one at h; cases h; rfl
theorem j9 {α : Type} {b : Bool} {x y : α} (h : (bif b then some x else none) = some y) : b = true ∧ x = y := by
  cases b with
  | false => cases h
  | true => cases h; exact ⟨rfl, rfl⟩
section
variable {C : Ctx} {P : Program} {ops : Array Oper} {S : St} {i nid nid' : Nat} {s : Step}
theorem bU (h : uW P ops S nid i = some (s, nid')) (hw : ∀ w, chkL P ops S i w = chkR P ops S i w) : Does C P ops i S s := by
  unfold uW at h
  split at h
  · cases h
  · rename_i op hs
    cases h
    exact does_skip hs
  · rename_i op hs
    split at h
    · obtain ⟨v, hx, h⟩ := Option.bind_eq_some_iff.1 h
      rw [cR h]; exact does_move hs hx
    · obtain ⟨v, hx, h⟩ := Option.bind_eq_some_iff.1 h
      rw [cR h]; exact eG hs hx
    · split at h
      · rename_i b hc
        obtain ⟨v, hx, h⟩ := Option.bind_eq_some_iff.1 h
        rw [cR h]; exact does_pick hs hc hx
      · cases h
    · split at h
      · rename_i A hx
        rw [cR h]; exact n8 hs hx
      · cases h
    · split at h
      · rename_i vs hx
        obtain ⟨v, hv, h⟩ := Option.bind_eq_some_iff.1 h
        rw [cR h]; exact lE hs hx hv
      · cases h
    · split at h
      · rename_i k off hx
        obtain ⟨d, hd, h⟩ := Option.bind_eq_some_iff.1 h
        rw [cR h]; exact uZ hs hx hd
      · cases h
    · split at h
      · rename_i k off kd j hx hy
        split at h
        · rename_i n z hn hz
          obtain ⟨hc, he⟩ := j9 (by unfold one at h; exact h)
          cases he
          have := mC hc
          exact tA hs hx hy hn hz this.1 this.2
        · cases h
      · rename_i k off n c kd j hx hy
        split at h
        · rename_i z hz
          obtain ⟨hc, he⟩ := j9 (by unfold one at h; exact h)
          cases he
          rw [Bool.and_eq_true] at hc
          have := mC hc.1
          exact q7 hs hx hy hc.2 hz this.1 this.2
        · cases h
      · cases h
    · split at h
      · rename_i k off hx
        split at h
        · rename_i b hb
          obtain ⟨v, hv, h⟩ := Option.bind_eq_some_iff.1 h
          cases h
          exact bM hs hx hb hv
        · cases h
      · cases h
    · split at h
      · rename_i k off v hx hy
        split at h
        · rename_i b hb
          obtain ⟨hc, he⟩ := j9 h
          cases he
          simp only [Bool.and_eq_true] at hc
          obtain ⟨⟨⟨h1, h2⟩, h3⟩, h4⟩ := hc
          refine j4 hs hx hy hb h1 ?_ h2 h3 rfl
          split at h4
          · rename_i z hz; rw [hz, Nat.eq_of_beq_eq_true h4]
          · cases h4
        · cases h
      · cases h
    · split at h
      · rename_i v hk hz
        obtain ⟨hc, he⟩ := j9 h
        cases he
        exact qF1 hs hk hz hc rfl
      · cases h
    · split at h
      · rename_i v hk hx
        cases h
        exact does_box hs hk hx rfl
      · cases h
    · split at h
      · rename_i z ps hz hps
        split at h
        · rename_i cells hc
          obtain ⟨hb, he⟩ := j9 (by unfold one at h; exact h)
          cases he
          rw [Bool.and_eq_true] at hb
          exact qF0 hs hz hb.1 hb.2 hps hc
        · cases h
      · cases h
    · split at h
      · rename_i e ps hk he hps
        split at h
        · rename_i z zs hz hzs
          split at h
          · rename_i cells hc
            obtain ⟨hb, hh⟩ := j9 h
            cases hh
            simp only [Bool.and_eq_true] at hb
            exact uE hs hk he hz hps hzs hb.1.1 hc hb.1.2 hb.2
          · cases h
        · cases h
      · cases h
    · split at h
      · rename_i xs cs hx hc
        rw [cR h]; exact n9 hs hx hc
      · cases h
    · split at h
      · rename_i x t hl
        have hop := qE6 hl
        subst hop
        split at h
        · rename_i k off n c hx
          obtain ⟨hb, he⟩ := j9 (by unfold one at h; exact h)
          cases he
          exact does_len hs hx hb
        · rename_i hx
          obtain ⟨hb, he⟩ := j9 (by unfold one at h; exact h)
          cases he
          exact eE hs hx hb
        · cases h
      · cases hb : (isPv op && pureB ops S i) with
        | false => rw [hb] at h; cases h
        | true =>
          rw [hb] at h
          rw [Bool.and_eq_true] at hb
          obtain ⟨v, hv, h⟩ := Option.bind_eq_some_iff.1 h
          obtain ⟨hf, he⟩ := j9 (by unfold one at h; exact h)
          cases he
          refine lC hb.2 (fun w => ?_) hf
          have := hw w
          unfold chkL chkR at this
          rw [hs] at this
          simp only [hb.1, cond_true, hv] at this
          exact this
/-- n operations from i on -/
def eR (P : Program) (ops : Array Oper) : Nat → Nat → St → Nat → St
  | 0, _, S, _ => S
  | n + 1, i, S, nid => match uW P ops S nid i with
    | some (s, nid') => eR P ops n (i + 1) (S.put (gE ops i) s.eff) nid'
    | none => S
def eS (P : Program) (ops : Array Oper) : Nat → Nat → St → Nat → List Step
  | 0, _, _, _ => []
  | n + 1, i, S, nid => match uW P ops S nid i with
    | some (s, nid') => s :: eS P ops n (i + 1) (S.put (gE ops i) s.eff) nid'
    | none => []
def uQ (P : Program) (ops : Array Oper) : Nat → Nat → St → Nat → Bool
  | 0, _, _, _ => true
  | n + 1, i, S, nid => match uW P ops S nid i with
    | some (s, nid') => uQ P ops n (i + 1) (S.put (gE ops i) s.eff) nid'
    | none => false
def tM (P : Program) (ops : Array Oper) (w : World) : Nat → Nat → St → Nat → List (Result Next)
  | 0, _, _, _ => []
  | n + 1, i, S, nid => chkL P ops S i w :: match uW P ops S nid i with
    | some (s, nid') => tM P ops w n (i + 1) (S.put (gE ops i) s.eff) nid'
    | none => []
def tL (P : Program) (ops : Array Oper) (w : World) : Nat → Nat → St → Nat → List (Result Next)
  | 0, _, _, _ => []
  | n + 1, i, S, nid => chkR P ops S i w :: match uW P ops S nid i with
    | some (s, nid') => tL P ops w n (i + 1) (S.put (gE ops i) s.eff) nid'
    | none => []
end
section
variable {C : Ctx} {P : Program} {ops : Array Oper} {S' : St} {l : List Step}
theorem lV : ∀ (n i : Nat) (S : St) (nid : Nat), uQ P ops n i S nid = true → (∀ w, tM P ops w n i S nid = tL P ops w n i S nid) →
    Runs C P ops (i + n) (eR P ops n i S nid) l S' → Runs C P ops i S (eS P ops n i S nid ++ l) S'
  | 0, i, S, nid, _, _, r => r
  | n + 1, i, S, nid, ho, hw, r => by
    unfold uQ at ho
    unfold eR at r
    unfold eS
    cases hs : uW P ops S nid i with
    | none => rw [hs] at ho; cases ho
    | some x =>
      obtain ⟨s, nid'⟩ := x
      rw [hs] at ho
      rw [hs] at r
      simp only at ho r ⊢
      have hw1 : ∀ w, chkL P ops S i w = chkR P ops S i w := fun w => by
        have := hw w; unfold tM tL at this; exact (List.cons.inj this).1
      have hw2 : ∀ w, tM P ops w n (i + 1) (S.put (gE ops i) s.eff) nid' = tL P ops w n (i + 1) (S.put (gE ops i) s.eff) nid' := fun w => by
        have := hw w; unfold tM tL at this; rw [hs] at this; exact (List.cons.inj this).2
      have := lV n (i + 1) (S.put (gE ops i) s.eff) nid' ho hw2 (by rw [show i + 1 + n = i + (n + 1) by omega]; exact r)
      exact .cons rfl (bU hs hw1) this
variable {S : St} {i : Nat}
theorem Runs.a (n nid : Nat) (r : Runs C P ops (i + n) (eR P ops n i S nid) l S') (ho : uQ P ops n i S nid = true := by kernel_rfl)
    (hw : ∀ w, tM P ops w n i S nid = tL P ops w n i S nid := by intro w; kernel_rfl) : Runs C P ops i S (eS P ops n i S nid ++ l) S' := lV n i S nid ho hw r
/-- one operation, its proof given -/
theorem Runs.p {s : Step} (h : Does C P ops i S s) (r : Runs C P ops (i + 1) (S.put (gE ops i) s.eff) l S') : Runs C P ops i S (s :: l) S' := .cons rfl h r
theorem Runs.n : Runs C P ops i S [] S := .nil i S
end
section
variable {C : Ctx} {P : Program} {ops : Array Oper} {S : St} {i : Nat}
theorem qJ {n : Int} (n' : Int) (e : n = n') (k : IntKind) (h : uW P ops S 0 i = some (⟨[], .int k n, []⟩, 0) := by kernel_rfl) (hw : ∀ w, chkL P ops S i w = chkR P ops S i w := by intro w; kernel_rfl) :
    Does C P ops i S ⟨[], .int k n', []⟩ := by subst e; exact bU h hw
theorem qN {b : Bool} (b' : Bool) (e : b = b') (h : uW P ops S 0 i = some (⟨[], .bool b, []⟩, 0) := by kernel_rfl) (hw : ∀ w, chkL P ops S i w = chkR P ops S i w := by intro w; kernel_rfl) :
    Does C P ops i S ⟨[], .bool b', []⟩ := by subst e; exact bU h hw
/-- Equality of structs and arrays. -/
def eqAt (P : Program) (ops : Array Oper) (S : St) (i : Nat) : Option Bool := match qZ ops S i with
  | some (.binOp o t x y _, true) => match ev S x, ev S y with
    | some (.agg xs), some (.agg ys) => bif flatB (.agg xs) && flatB (.agg ys) && !(P.eqGuardType P.depth t) then (match o with
        | .eql => eqT P 10000 t (.agg xs) (.agg ys)
        | .neq => (eqT P 10000 t (.agg xs) (.agg ys)).map (! ·)
        | _ => none) else none
    | _, _ => none
  | _ => none
theorem qV {b : Bool} (b' : Bool) (e : b = b') (h : eqAt P ops S i = some b := by kernel_rfl) : Does C P ops i S ⟨[], .bool b', []⟩ := by
  subst e
  unfold eqAt at h
  split at h
  · rename_i o t x y t2 hs
    split at h
    · rename_i xs ys hx hy
      cases hc : (flatB (.agg xs) && flatB (.agg ys) && !(P.eqGuardType P.depth t)) with
      | false => rw [hc] at h; cases h
      | true =>
        rw [hc] at h
        simp only [Bool.and_eq_true, Bool.not_eq_true'] at hc
        simp only [cond_true] at h
        split at h
        · exact does_eql hs hx hy hc.1.1 hc.1.2 hc.2 h
        · obtain ⟨b0, h1, rfl⟩ := Option.map_eq_some_iff.1 h
          exact does_neq hs hx hy hc.1.1 hc.1.2 hc.2 h1
        · cases h
    · cases h
  · cases h
def lM (P : Program) (ops : Array Oper) (S : St) (i : Nat) : Option (Nat × List Value) := match qZ ops S i with
  | some (.call ⟨.value x, ars, _⟩, true) => match ev S x, evs S ars.toList with
    | some (.func (.func g) a b), some vs => bif wJ P g then some (g, a.toList ++ vs ++ b.toList) else none
    | _, _ => none
  | _ => none
theorem uP {g : Nat} {vs : List Value} (h : lM P ops S i = some (g, vs)) : ∃ x ars ats a b us, qZ ops S i = some (.call ⟨.value x, ars, ats⟩, true) ∧ ev S x = some (.func (.func g) a b) ∧ evs S ars.toList = some us ∧ wJ P g = true ∧ vs = a.toList ++ us ++ b.toList := by
  unfold lM at h
  split at h
  · rename_i x ars ats hs
    split at h
    · rename_i g' a b us hx hu
      obtain ⟨hb, he⟩ := j9 h
      cases he
      exact ⟨x, ars, ats, a, b, us, hs, hx, hu, hb, rfl⟩
    · cases h
  · cases h
/-- A call that hands no block over. -/
theorem qC {g : Nat} {vs : List Value} {v : Value} (ac : AC P g 0 vs [] v []) (h : lM P ops S i = some (g, vs) := by kernel_rfl) (hf : (vs.all flatB && flatB v) = true := by kernel_rfl) : Does C P ops i S ⟨[], v, []⟩ := by
  obtain ⟨x, ars, ats, a, b, us, hs, hx, hu, hb, he⟩ := uP h
  rw [Bool.and_eq_true] at hf
  have := lF (C := C) (P := P) (ops := ops) (i := i) (S := S) (m := 0) (r := 0) (pre := []) (post := []) (v := v) (fun j => j) hs hx hu hb ac
    (by rw [← he]; exact .flat (fun u hu => qT (List.all_eq_true.1 hf.1 u hu))) trivial trivial (fun j hj => by omega) (fun j hj => by simp at hj) (fun i j hi => by omega) (fun j h1 h2 => by omega) trivial
    (fun j hj => by simp at hj) (.flat v (qT hf.2))
  exact this
theorem xJ {g : Nat} {vs : List Value} (b' : Bool) (ac : AC P g 0 vs [] (.bool b') []) (b : Bool) (e : b' = b) (h : lM P ops S i = some (g, vs) := by kernel_rfl) (hf : vs.all flatB = true := by kernel_rfl) : Does C P ops i S ⟨[], .bool b, []⟩ := by
  subst e; exact qC ac h (by rw [hf]; rfl)
end
def ren1 (sl : List Nat) : Value → Value
  | .pointer (some ⟨k, off, none⟩) => .pointer (some ⟨sl.getD k 0, off, none⟩)
  | .slice (some ⟨k, off, none⟩) n c => .slice (some ⟨sl.getD k 0, off, none⟩) n c
  | v => v
def renT (sl : List Nat) (v : Value) : Value := match v with
  | .agg ys => .agg (ys.toList.map (ren1 sl)).toArray
  | .tuple xs => .tuple xs
  | v => ren1 sl v
def renA (sl : List Nat) (v : Value) : Value := match v with
  | .tuple xs => .tuple (xs.toList.map (renT sl)).toArray
  | v => renT sl v
def rok1 (n : Nat) : Value → Bool
  | .pointer (some ⟨k, _, none⟩) => Nat.blt k n
  | .slice (some ⟨k, _, none⟩) _ _ => Nat.blt k n
  | v => c9 v
def rokT (n : Nat) (v : Value) : Bool := match v with
  | .agg xs => xs.toList.all (rok1 n)
  | .tuple _ => false
  | v => rok1 n v
def rokA (n : Nat) (v : Value) : Bool := match v with
  | .tuple xs => xs.toList.all (rokT n)
  | v => rokT n v
theorem qA2 {sl : List Nat} {n : Nat} {v : Value} (h : rok1 n v = true) : RenV (fun j => sl.getD j 0) (· < n) v (ren1 sl v) := by
  unfold rok1 at h
  unfold ren1
  split at h
  · exact .ptr _ _ (gB h)
  · exact .slice _ _ _ _ _ (gB h)
  · exact .flat _ (gJ h)
theorem bB {n : Nat} {σ : Nat → Nat} {f : Value → Value} : ∀ (l : List Value), (∀ v ∈ l, RenV σ (· < n) v (f v)) → RenL σ (· < n) l (l.map f)
  | [], _ => .nil
  | v :: l, h => .cons (h v List.mem_cons_self) (bB l (fun u hu => h u (List.mem_cons_of_mem _ hu)))
theorem e9 {sl : List Nat} {n : Nat} {v : Value} (h : rokT n v = true) : RenV (fun j => sl.getD j 0) (· < n) v (renT sl v) := by
  unfold rokT at h
  unfold renT
  split at h
  · rename_i xs
    exact .aggL (by simpa using bB xs.toList (fun v hv => qA2 (List.all_eq_true.1 h v hv)))
  · cases h
  · exact qA2 h
theorem mV {sl : List Nat} {n : Nat} {v : Value} (h : rokA n v = true) : RenV (fun j => sl.getD j 0) (· < n) v (renA sl v) := by
  unfold rokA at h
  unfold renA
  split at h
  · rename_i xs
    exact .tupleL (by simpa using bB xs.toList (fun v hv => e9 (List.all_eq_true.1 h v hv)))
  · exact e9 h
def cM (sl : List Nat) (x : Nat × Blk) : Nat × Blk := (sl.getD x.1 0, ⟨x.2.cells.map (renA sl), x.2.elem, x.2.own, x.2.step⟩)
theorem mU {sl : List Nat} {n : Nat} : ∀ (l : List (Nat × Blk)), (l.all fun x => x.2.cells.all (rokA n)) = true → RenH (fun j => sl.getD j 0) (· < n) l (l.map (cM sl))
  | [], _ => trivial
  | x :: l, h => by
    simp only [List.all_cons, Bool.and_eq_true] at h
    exact ⟨rfl, ⟨rfl, rfl, rfl, bB _ (fun v hv => mV (List.all_eq_true.1 h.1 v hv))⟩, mU l h.2⟩
section
variable {C : Ctx} {P : Program} {ops : Array Oper} {S : St} {i : Nat}
/-- A call with blocks: 'sl' the caller's numbers of the callee's blocks, the first m of them handed over. -/
theorem qQ (sl : List Nat) {g m : Nat} {args0 : List Value} {pre0 post0 : List (Nat × Blk)} {v0 : Value} (ac : AC P g m args0 pre0 v0 post0) (r : Nat := sl.length - m)
    (h : lM P ops S i = some (g, args0.map (renA sl)) := by kernel_rfl)
    (hb : (args0.all (rokA m) && pre0.all (fun x => x.2.cells.all (rokA m)) && post0.all (fun x => x.2.cells.all (rokA (m + r))) && rokA (m + r) v0 && tH m r (pre0.map (·.1)) (post0.map (·.1)) sl (mX (pre0.map (cM sl)))) = true := by kernel_rfl)
    (hpreS : (pre0.map (cM sl)).map (fun x => S.H x.1) = (pre0.map (cM sl)).map (fun x => .live x.2) := by kernel_rfl)
    (hnew : (List.range' m r).map (fun j => S.H (sl.getD j 0)) = (List.range' m r).map (fun _ => .fresh) := by kernel_rfl) :
    Does C P ops i S ⟨(pre0.map (cM sl)).map (·.1) ++ (List.range' m r).map (fun j => sl.getD j 0), renA sl v0, jA (pre0.map (cM sl)) (post0.map (cM sl))⟩ := by
  obtain ⟨x, ars, ats, a, b, us, hs, hx, hu, hg, he⟩ := uP h
  simp only [Bool.and_eq_true] at hb
  obtain ⟨⟨⟨⟨h1, h2⟩, h3⟩, h4⟩, h5⟩ := hb
  exact fE sl hs hx hu hg ac (by rw [← he]; exact bB _ (fun v hv => mV (List.all_eq_true.1 h1 v hv))) (mU _ h2) hpreS h5 hnew (mU _ h3) (mV h4)
end
def isSR (c : Code) (d : Bool) : Bool := match c with
  | .seq (.region _ _ d') _ => d == d'
  | _ => false
def isR (c : Code) (d : Bool) : Bool := match c with
  | .region _ _ d' => d == d'
  | _ => false
def opsL (c : Code) : Array Oper := match c with
  | .seq x _ => regOps x
  | c => regOps c
/-- all that must have come up before, by the edges -/
def ancGo (ops : Array Oper) : Nat → Nat → List (List Nat) → List (List Nat)
  | 0, _, acc => acc
  | n + 1, i, acc => ancGo ops n (i + 1) (acc ++ [(deps ops i).foldl (fun b e => (e :: acc.getD e []).foldl (fun b x => bif b.any (Nat.beq x) then b else x :: b) b) []])
def ancC (ops : Array Oper) : List (List Nat) := ancGo ops ops.size 0 []
section
variable {C : Ctx} {P : Program} {Q : Exit → St → Prop} {f : Func} {n : Nat} {S S1 : St} {steps : List Step}
theorem rR {c : Code} {d : Bool} (h : isSR c d = true) : ∃ id y, c = .seq (.region id (opsL c) d) y := by
  unfold isSR at h
  split at h
  · rename_i id ops d' y; rw [beq_iff_eq] at h; subst h; exact ⟨id, y, rfl⟩
  · cases h
theorem qB3 {c : Code} {d : Bool} (h : isR c d = true) : ∃ id, c = .region id (opsL c) d := by
  unfold isR at h
  split at h
  · rename_i id ops d'; rw [beq_iff_eq] at h; subst h; exact ⟨id, rfl⟩
  · cases h
def cK (c : Code) : Code := match c with | .seq _ y => y | c => c
theorem aw_p (y : Nat) (hr : Runs C P (opsL (sb f n)) 0 S steps S1) (h : AW C P (sb f y) S1 Q) (hk : isSR (sb f n) false = true := by kernel_rfl) (hy : cK (sb f n) = sb f y := by kernel_rfl)
    (hd : dstB (opsL (sb f n)) C.n = true := by kernel_rfl) (hn : steps.length = (opsL (sb f n)).size := by kernel_rfl) : AW C P (sb f n) S Q := by
  obtain ⟨id, y', hc⟩ := rR hk
  have : y' = sb f y := by rw [← hy, hc]; rfl
  subst this
  exact lS hc rfl hd hn hr h
theorem aw_d (y : Nat) (hr : Runs C P (opsL (sb f n)) 0 S steps S1) (h : AW C P (sb f y) S1 Q) (hk : isSR (sb f n) true = true := by kernel_rfl) (hy : cK (sb f n) = sb f y := by kernel_rfl)
    (hm : P.follows .mixedOrders = true := by kernel_rfl) (hd : dstB (opsL (sb f n)) C.n = true := by kernel_rfl) (hn : steps.length = (opsL (sb f n)).size := by kernel_rfl)
    (hA : (tU (opsL (sb f n)) (ancC (opsL (sb f n))) && gH (opsL (sb f n)) (ancC (opsL (sb f n))) && vH (opsL (sb f n)) steps (ancC (opsL (sb f n)))) = true := by kernel_rfl) : AW C P (sb f n) S Q := by
  obtain ⟨id, y', hc⟩ := rR hk
  have : y' = sb f y := by rw [← hy, hc]; rfl
  subst this
  exact lU (ancC (opsL (sb f n))) hc hm rfl hd hn hA hr h
theorem qW (hr : Runs C P (opsL (sb f n)) 0 S steps S1) (h : Q .normal S1) (hk : isR (sb f n) false = true := by kernel_rfl) (hd : dstB (opsL (sb f n)) C.n = true := by kernel_rfl)
    (hn : steps.length = (opsL (sb f n)).size := by kernel_rfl) : AW C P (sb f n) S Q := by
  obtain ⟨id, hc⟩ := qB3 hk
  exact qC7 hc hd hn hr h
theorem fX (hr : Runs C P (opsL (sb f n)) 0 S steps S1) (h : Q .normal S1) (hk : isR (sb f n) true = true := by kernel_rfl) (hm : P.follows .mixedOrders = true := by kernel_rfl) (hd : dstB (opsL (sb f n)) C.n = true := by kernel_rfl)
    (hn : steps.length = (opsL (sb f n)).size := by kernel_rfl)
    (hA : (tU (opsL (sb f n)) (ancC (opsL (sb f n))) && gH (opsL (sb f n)) (ancC (opsL (sb f n))) && vH (opsL (sb f n)) steps (ancC (opsL (sb f n)))) = true := by kernel_rfl) : AW C P (sb f n) S Q := by
  obtain ⟨id, hc⟩ := qB3 hk
  exact qC8 (ancC (opsL (sb f n))) hm hc hd hn hA hr h
def leftOf (c : Code) : Code := match c with | .seq x _ => x | c => c
def isSeq (c : Code) : Bool := match c with | .seq _ _ => true | _ => false
def isBlk (c : Code) (id : Nat) : Bool := match c with | .block j _ => Nat.beq j id | _ => false
def isLoop (c : Code) : Bool := match c with | .loop _ => true | _ => false
def inOf (c : Code) : Code := match c with | .block _ x => x | .loop x => x | c => c
def condOf (c : Code) : Option Operand := match c with | .cond o _ _ => some o | _ => none
def thenOf (c : Code) : Code := match c with | .cond _ x _ => x | c => c
def elseOf (c : Code) : Code := match c with | .cond _ _ y => y | c => c
theorem qD (x y : Nat) (h : AW C P (sb f x) S (rA (fun S' => AW C P (sb f y) S' Q) Q)) (hk : isSeq (sb f n) = true := by kernel_rfl) (hx : leftOf (sb f n) = sb f x := by kernel_rfl) (hy : cK (sb f n) = sb f y := by kernel_rfl) :
    AW C P (sb f n) S Q := by
  refine aw_seq ?_ h
  rw [← hx, ← hy]
  generalize sb f n = c at *
  cases c <;> first | rfl | cases hk
theorem qH (h : Q .normal S) (hk : sb f n = .skip := by kernel_rfl) : AW C P (sb f n) S Q := aw_skip hk h
theorem qF (h : Q .ret S) (hk : sb f n = .ret := by kernel_rfl) : AW C P (sb f n) S Q := aw_ret hk h
theorem q5 (id : Nat) (h : Q (.exit id) S) (hk : sb f n = .exit id := by kernel_rfl) : AW C P (sb f n) S Q := aw_exit hk h
theorem qM (id x : Nat) (h : AW C P (sb f x) S (lN id Q)) (hk : isBlk (sb f n) id = true := by kernel_rfl) (hx : inOf (sb f n) = sb f x := by kernel_rfl) : AW C P (sb f n) S Q := by
  refine aw_block ?_ h
  rw [← hx]
  generalize sb f n = c at *
  cases c <;> first | cases hk | (rename_i j x; have := Nat.eq_of_beq_eq_true hk; subst this; rfl)
theorem uN {c : Code} {o : Operand} (h : condOf c = some o) : c = .cond o (thenOf c) (elseOf c) := by
  unfold condOf at h
  split at h
  · cases h; rfl
  · cases h
def qF4 (S : St) (c : Code) : Option Value := (condOf c).bind (ev S)
theorem qY (x y : Nat) (b : Bool) (h1 : b = true → AW C P (sb f x) S Q) (h2 : b = false → AW C P (sb f y) S Q) (hk : qF4 S (sb f n) = some (.bool b) := by kernel_rfl) (hx : thenOf (sb f n) = sb f x := by kernel_rfl) (hy : elseOf (sb f n) = sb f y := by kernel_rfl) :
    AW C P (sb f n) S Q := by
  unfold qF4 at hk
  obtain ⟨o, ho, hv⟩ := Option.bind_eq_some_iff.1 hk
  refine eQ (uN ho) hv (fun e => ?_) (fun e => ?_)
  · rw [hx]; exact h1 e
  · rw [hy]; exact h2 e
theorem qR (x : Nat) (h : AW C P (sb f x) S Q) (b : Bool := true) (e : b = true := by rfl) (hk : qF4 S (sb f n) = some (.bool b) := by kernel_rfl) (hx : thenOf (sb f n) = sb f x := by kernel_rfl) : AW C P (sb f n) S Q := by
  unfold qF4 at hk
  obtain ⟨o, ho, hv⟩ := Option.bind_eq_some_iff.1 hk
  refine eQ (uN ho) hv (fun _ => ?_) (fun e' => by rw [e] at e'; cases e')
  rw [hx]; exact h
theorem qP (y : Nat) (h : AW C P (sb f y) S Q) (b : Bool := false) (e : b = false := by rfl) (hk : qF4 S (sb f n) = some (.bool b) := by kernel_rfl) (hy : elseOf (sb f n) = sb f y := by kernel_rfl) : AW C P (sb f n) S Q := by
  unfold qF4 at hk
  obtain ⟨o, ho, hv⟩ := Option.bind_eq_some_iff.1 hk
  refine eQ (uN ho) hv (fun e' => by rw [e] at e'; cases e') (fun _ => ?_)
  rw [hy]; exact h
theorem q6 (x : Nat) (h : AL C P (sb f x) S Q) (hk : isLoop (sb f n) = true := by kernel_rfl) (hx : inOf (sb f n) = sb f x := by kernel_rfl) : AW C P (sb f n) S Q := by
  refine aw_rounds ?_ h
  rw [← hx]
  generalize sb f n = c at *
  cases c <;> first | rfl | cases hk
end
theorem aw_w {C : Ctx} {P : Program} {Q : Exit → St → Prop} {c : Code} {S : St} (T : List (Nat × Value)) (L : List (Nat × Blk)) (h : AW C P c (mkSt C.m T L) Q) (hT : T.map (fun x => S.T x.1) = T.map (fun x => some x.2) := by kernel_rfl)
    (hL : L.map (fun x => S.H x.1) = L.map (fun x => .live x.2) := by kernel_rfl) (hc : wW C.m T L = true := by kernel_rfl) : AW C P c S Q := yL (weak_b hT hL hc) h
theorem al_w {C : Ctx} {P : Program} {Q : Exit → St → Prop} {c : Code} {S : St} (T : List (Nat × Value)) (L : List (Nat × Blk)) (h : AL C P c (mkSt C.m T L) Q) (hT : T.map (fun x => S.T x.1) = T.map (fun x => some x.2) := by kernel_rfl)
    (hL : L.map (fun x => S.H x.1) = L.map (fun x => .live x.2) := by kernel_rfl) (hc : wW C.m T L = true := by kernel_rfl) : AL C P c S Q := wZ (weak_b hT hL hc) h
theorem qB {P : Program} {fn : Func} {v : Value} {post : List (Nat × Blk)} {S : St} (vs : List Value) (h2 : fV vs = v) (h1 : uY P S fn.results.toList = some vs := by kernel_rfl) (h3 : post.map (fun x => S.H x.1) = post.map (fun x => .live x.2) := by kernel_rfl) : EndQ P fn v post .ret S :=
  end_ret h1 h2 (yY h3)
theorem v8 {P : Program} {fn : Func} {v : Value} {post : List (Nat × Blk)} {S : St} (vs : List Value) (h2 : fV vs = v) (h1 : uY P S fn.results.toList = some vs := by kernel_rfl) (h3 : post.map (fun x => S.H x.1) = post.map (fun x => .live x.2) := by kernel_rfl) : EndQ P fn v post .normal S :=
  qEH h1 h2 (yY h3)
theorem qK {P : Program} {f : FuncId} {fn : Func} {m : Nat} {args : List Value} {pre post : List (Nat × Blk)} {v : Value} (hf : P.funcs[f]? = some fn)
    (h : ∀ w0 W pin, AW ⟨w0, W, fn.ntmps, m, pin, []⟩ P (sb fn 1) (mkSt m (fF 0 args) pre) (EndQ P fn v post)) (hb : fn.body = some (mK fn) := by kernel_rfl) (hn : Nat.ble args.length fn.ntmps = true := by kernel_rfl)
    (hpo : (post.all fun x => x.2.own) = true := by kernel_rfl) : AC P f m args pre v post := ac_intro hf hb hn hpo h
section
variable {C : Ctx} {P : Program} {ops : Array Oper} {S : St} {i : Nat}
def callX (ops : Array Oper) (S : St) (i : Nat) : Option (Nat × List Value) := match qZ ops S i with
  | some (.call ⟨.value x, ars, _⟩, true) => match ev S x, evs S ars.toList with
    | some (.func (.func g) a b), some vs => bif Nat.beq a.size 0 && Nat.beq b.size 0 then some (g, vs) else none
    | _, _ => none
  | _ => none
theorem fR {g : Nat} {vs : List Value} {v : Value} (hc : ∀ w, (callFunc g vs.toArray).run P w = .ok (.value v) w) (h : callX ops S i = some (g, vs) := by kernel_rfl) (hf : (vs.all flatB && flatB v) = true := by kernel_rfl) :
    Does C P ops i S ⟨[], v, []⟩ := by
  unfold callX at h
  split at h
  · rename_i x ars ats hs
    split at h
    · rename_i g' a0 b0 us hx hu
      obtain ⟨hb, he⟩ := j9 h
      cases he
      rw [Bool.and_eq_true] at hb hf
      refine .of_run hs fun o ho S' ρ a w hT hH hr => ?_
      have hx' : ev S' x = some (.func (.func g) a0 b0) := by rw [hT x (by simp [Op.operands, Call.operands])]; exact hx
      have hu' : evs S' ars.toList = some vs := by rw [wD (fun y hy => hT y (by simp [Op.operands, Call.operands]; exact .inr (by simpa using hy)))]; exact hu
      have hfx := jM hr hx'
      obtain ⟨e1, e2⟩ := wT hr hu'
      generalize hax : a.eval x = ax at hfx
      cases hfx with
      | func _ _ ys _ ds q1 _ q2 _ =>
        have z1 : ys = #[] := by apply Array.eq_empty_of_size_eq_zero; have := Nat.eq_of_beq_eq_true hb.1; omega
        have z2 : ds = #[] := by apply Array.eq_empty_of_size_eq_zero; have := Nat.eq_of_beq_eq_true hb.2; omega
        subst z1; subst z2
        have ea : ars.map a.eval = vs.toArray := by
          apply Array.ext'
          simp only [Array.toList_map]
          apply List.ext_getElem?
          intro j
          cases hj : vs[j]? with
          | none => rw [List.getElem?_eq_none_iff] at hj ⊢; simp at e1 ⊢; omega
          | some u =>
            obtain ⟨z, h1, h2⟩ := e2 j u hj
            rw [h1, h2.eq_of_only (qT (List.all_eq_true.1 hf.1 u (List.mem_of_getElem? hj)))]
        refine ⟨_, w, ρ, v, ?_, .inl rfl, .of_only (qT hf.2), hr⟩
        simp only [execOp, ho, resolve, hax, Deferred.ofValue, Sem.run_bind, Sem.run_pure, Result.andThen_ok, invoke, ea]
        have := hc w
        simpa using this
    · cases h
  · cases h
def ixAt (P : Program) (ops : Array Oper) (S : St) (i : Nat) : Option (ByteArray × Int) := match qZ ops S i with
  | some (.index t x y, true) => match ev S x, ev S y with
    | some (.string s), some (.int _ j) => match P.underlying t with
      | some .string => some (s, j)
      | _ => none
    | _, _ => none
  | _ => none
theorem does_ixs {s : ByteArray} {j : Int} {b : UInt8} (h0 : 0 ≤ j) (hb : s[j.toNat]? = some b) (h : ixAt P ops S i = some (s, j) := by kernel_rfl) : Does C P ops i S ⟨[], .int .u8 b.toNat, []⟩ := by
  unfold ixAt at h
  split at h
  · rename_i t x y hs
    split at h
    · rename_i s' k j' hx hy
      split at h
      · rename_i hu
        cases h
        refine .of_run hs fun o ho S' ρ a w hT hH hr => ?_
        have h1 := (jM hr (by rw [hT x (by simp [Op.operands])]; exact hx)).eq_of_only (.string _)
        have h2 := (jM hr (by rw [hT y (by simp [Op.operands])]; exact hy)).eq_of_only (.int _ _)
        refine ⟨_, w, ρ, .int .u8 b.toNat, ?_, .inl rfl, .int _ _, hr⟩
        simp only [execOp, ho, h1, h2, Instr.index, asIntOf, Sem.run_bind, Sem.run_pure, Result.andThen_ok, run_underlying hu, if_pos h0, hb]
      · cases h
    · cases h
  · cases h
theorem run_add64 {P : Program} {g : Nat} {fn : Func} (hf : P.funcs[g]? = some fn) (hx : (fn.name == "runtime.NumGoroutine") = false := by kernel_rfl) (hb : fn.body.isNone = true := by kernel_rfl) (hn : Extern.findNext fn = none := by kernel_rfl)
    (he : Extern.find fn = some add64Entry := by kernel_rfl) (x y c : Int) (h0 : 0 ≤ x) (h1 : 0 ≤ y) (h2 : 0 ≤ c) (h3 : c ≤ 1) : ∀ w, (callFunc g [.int .u64 x, .int .u64 y, .int .u64 c].toArray).run P w =
      .ok (.value (.tuple #[.int .u64 ((x + y + c) % 18446744073709551616), .int .u64 ((x + y + c) / 18446744073709551616)])) w := fun w => by
  rw [run_callFunc_extern hf hx hb hn he]
  have := Go.run_add64 (P := P) x y c h0 h1 h2 h3 w
  simp only [this, Result.andThen]
def u7 : Array Value → Sem Value := fun args => do
  let (x, y, b) ← Extern.MathBitsCarry.three "Sub64" args
  pure (Extern.MathBitsCarry.pair ((x + Extern.MathBitsCarry.m64 - y - b) % Extern.MathBitsCarry.m64) (if x < y + b then 1 else 0))
theorem rF {P : Program} {g : Nat} {fn : Func} (hf : P.funcs[g]? = some fn) (hx : (fn.name == "runtime.NumGoroutine") = false := by kernel_rfl) (hb : fn.body.isNone = true := by kernel_rfl) (hn : Extern.findNext fn = none := by kernel_rfl)
    (he : Extern.find fn = some u7 := by kernel_rfl) (x y c : Int) (h0 : 0 ≤ x) (h0' : x ≤ 18446744073709551615) (h1 : 0 ≤ y) (h1' : y ≤ 18446744073709551615) (h2 : 0 ≤ c) (h3 : c ≤ 1) : ∀ w, (callFunc g [.int .u64 x, .int .u64 y, .int .u64 c].toArray).run P w =
      .ok (.value (.tuple #[.int .u64 ((x - y - c) % 18446744073709551616), .int .u64 (-((x - y - c) / 18446744073709551616))])) w := fun w => by
  rw [run_callFunc_extern hf hx hb hn he]
  obtain ⟨X, rfl⟩ := Int.eq_ofNat_of_zero_le h0
  obtain ⟨Y, rfl⟩ := Int.eq_ofNat_of_zero_le h1
  obtain ⟨k, rfl⟩ := Int.eq_ofNat_of_zero_le h2
  have key : (u7 #[.int .u64 (X : Int), .int .u64 (Y : Int), .int .u64 (k : Int)]).run P w = .ok (.tuple #[.int .u64 (((X + 18446744073709551616 - Y - k) % 18446744073709551616 : Nat) : Int), .int .u64 ((if X < Y + k then 1 else 0 : Nat) : Int)]) w := by
    have : k = 0 ∨ k = 1 := by omega
    rcases this with rfl | rfl <;> rfl
  have e : ([.int .u64 (X : Int), .int .u64 (Y : Int), .int .u64 (k : Int)] : List Value).toArray = #[.int .u64 (X : Int), .int .u64 (Y : Int), .int .u64 (k : Int)] := rfl
  rw [e, key]
  simp only [Result.andThen]
  have e1 : (((X + 18446744073709551616 - Y - k) % 18446744073709551616 : Nat) : Int) = ((X : Int) - Y - k) % 18446744073709551616 := by omega
  have e2 : ((if X < Y + k then 1 else 0 : Nat) : Int) = -(((X : Int) - Y - k) / 18446744073709551616) := by split <;> omega
  rw [e1, e2]
end
theorem aw_gen {ι : Type} {C : Ctx} {P : Program} {c : Code} {S : St} {Q : Exit → St → Prop} (S1 : ι → St) (F : ι → Prop) (i : ι) (hi : F i) (T : List (Nat × Value)) (L : List (Nat × Blk)) (h : ∀ i, F i → AW C P c (S1 i) Q)
    (e : S1 i = mkSt C.m T L := by rfl) (hT : T.map (fun x => S.T x.1) = T.map (fun x => some x.2) := by kernel_rfl) (hL : L.map (fun x => S.H x.1) = L.map (fun x => .live x.2) := by kernel_rfl) (hc : wW C.m T L = true := by kernel_rfl) : AW C P c S Q := by
  have := h i hi
  rw [e] at this
  exact yL (weak_b hT hL hc) this
section
variable {C : Ctx} {P : Program} {ops : Array Oper} {S : St} {i : Nat}
theorem cells_run {ρ : Ren} {w : World} {sp : Spot} {b : Blk} (h : jC ρ w sp b) {off n : Nat} (hle : off + n ≤ b.cells.length) :
    ∃ c : List Value, (loadCells ⟨sp.block, sp.off + off, none⟩ n).run P w = .ok c.toArray w ∧ c.length = n ∧ ∀ (j : Nat) (u : Value), ((b.cells.drop off).take n)[j]? = some u → ∃ v, c[j]? = some v ∧ VRel ρ u v := by
  have hc : ∀ j, j < n → ∃ x, w.cell? ((⟨sp.block, sp.off + off, none⟩ : Addr).add j) = some x ∧ ∀ u, b.cells[off + j]? = some u → VRel ρ u x := fun j hj => by
    obtain ⟨x, h1, h2⟩ := h.cell (j := off + j) (u := b.cells[off + j]) (List.getElem?_eq_getElem (by omega))
    refine ⟨x, by rw [add_at, Nat.add_assoc]; exact h1, fun u hu => ?_⟩
    rw [List.getElem?_eq_getElem (by omega)] at hu
    cases hu; exact h2
  let f : Nat → Value := fun j => (w.cell? ((⟨sp.block, sp.off + off, none⟩ : Addr).add j)).getD undef
  have hf : ∀ j, j < n → w.cell? ((⟨sp.block, sp.off + off, none⟩ : Addr).add j) = some (f j) := fun j hj => by
    obtain ⟨x, h1, _⟩ := hc j hj
    simp only [f, h1, Option.getD_some]
  refine ⟨(List.range n).map f, run_loadCells w _ n f hf, by simp, fun j u hu => ?_⟩
  have hj : j < n := by
    have := (List.getElem?_eq_some_iff.1 hu).1
    simp at this; omega
  obtain ⟨x, h1, h2⟩ := hc j hj
  refine ⟨x, ?_, h2 u ?_⟩
  · simp only [List.getElem?_map, List.getElem?_range hj, Option.map_some, f, h1, Option.getD_some]
  · rw [List.getElem?_take_of_lt hj, List.getElem?_drop] at hu; exact hu
def copyAt (P : Program) (ops : Array Oper) (S : St) (i : Nat) : Option (Nat × Nat × Nat × Nat × Nat × Nat × Nat) := match qZ ops S i with
  | some (.call c, true) => match c.callee with
    | .builtin b => match b with
      | .copy => match c.args.toList, c.argTypes.toList with
        | [x, y], t :: _ => match ev S x, ev S y with
          | some (.slice (some ⟨k, off, none⟩) n _), some (.slice (some ⟨k2, off2, none⟩) n2 _) => match gA P t with
            | some z => bif slcB P t then some (k, off, n, k2, off2, n2, z) else none
            | none => none
          | _, _ => none
        | _, _ => none
      | _ => none
    | _ => none
  | _ => none
end
section
variable {C : Ctx} {P : Program} {ops : Array Oper} {S : St} {i : Nat}
theorem sC (H : Nat → Cell) (k k' : Nat) (c c' : Cell) : wr [(k, c), (k', c')] H = upd (wr [(k', c')] H) k c := by
  funext n
  simp only [wr, upd, findW]
  cases Nat.beq n k <;> rfl
theorem Rel.gone {ρ : Ren} {a : Act} {w : World} (h : Rel C ρ S a w) (k : Nat) : Rel C ρ ⟨S.T, upd S.H k .gone⟩ a w := by
  have old : ∀ k1 b1, upd S.H k .gone k1 = .live b1 → S.H k1 = .live b1 := fun k1 b1 hb => by
    by_cases e : k1 = k
    · subst e; rw [jE] at hb; cases hb
    · rw [j3 _ _ e] at hb; exact hb
  refine ⟨h.size, h.defers, h.temps, ⟨fun k' (hf : upd S.H k _ k' = .fresh) => ?_, fun k' b' hb' => h.heap.live k' b' (old _ _ hb'), fun k1 k2 b1 b2 sp1 sp2 hne hb1 hb2 => h.heap.apart k1 k2 b1 b2 sp1 sp2 hne (old _ _ hb1) (old _ _ hb2)⟩, h.frame, fun k1 b1 sp1 hb1 => h.owned k1 b1 sp1 (old _ _ hb1), h.pin⟩
  by_cases e : k' = k
  · subst e; rw [jE] at hf; cases hf
  · rw [j3 _ _ e] at hf; exact h.heap.fresh k' hf
theorem Rel.move {ρ : Ren} {a : Act} {w : World} (h : Rel C ρ S a w) {k k' d : Nat} {b b' : Blk} {sp : Spot} (hk : S.H k = .live b) (ho : b.own = true) (hsp : ρ k = some sp) (hf : S.H k' = .fresh)
    (hd : d ≤ sp.size) (ho' : b'.own = true) (he : b'.elem = b.elem) (hst : b'.step = b.step) (hl : b'.cells.length ≤ sp.size - d) (hc : ∀ (j : Nat) (u : Value), b'.cells[j]? = some u → b.cells[d + j]? = some u) :
    Ren.le ρ (upd ρ k' (some ⟨sp.block, sp.off + d, sp.size - d, sp.step⟩)) ∧ Rel C (upd ρ k' (some ⟨sp.block, sp.off + d, sp.size - d, sp.step⟩)) ⟨S.T, wr [(k, .gone), (k', .live b')] S.H⟩ a w := by
  have hn := h.heap.fresh k' hf
  have hne : k ≠ k' := fun e => by subst e; rw [hk] at hf; cases hf
  have hle := Ren.le_upd (ρ := ρ) ⟨sp.block, sp.off + d, sp.size - d, sp.step⟩ hn
  rw [sC, eX]
  have get : ∀ k1 b1, upd (upd S.H k' (.live b')) k .gone k1 = .live b1 → k1 ≠ k ∧ ((k1 = k' ∧ b1 = b') ∨ (k1 ≠ k' ∧ S.H k1 = .live b1)) := fun k1 b1 hb => by
    by_cases e : k1 = k
    · subst e; rw [jE] at hb; cases hb
    · rw [j3 _ _ e] at hb
      refine ⟨e, ?_⟩
      by_cases e' : k1 = k'
      · subst e'; rw [jE] at hb; cases hb; exact .inl ⟨rfl, rfl⟩
      · rw [j3 _ _ e'] at hb; exact .inr ⟨e', hb⟩
  have spot : ∀ k1 b1 sp1, k1 ≠ k' → S.H k1 = .live b1 → upd ρ k' (some ⟨sp.block, sp.off + d, sp.size - d, sp.step⟩) k1 = some sp1 → ρ k1 = some sp1 := fun k1 b1 sp1 e _ hh => by rw [j3 _ _ e] at hh; exact hh
  obtain ⟨sp0, e1, e2⟩ := h.heap.live k b hk
  rw [hsp] at e1; cases e1
  have e2' := e2
  rw [jC.own ho] at e2'
  obtain ⟨st, c, g1, g2, g3, g4⟩ := e2'
  refine ⟨hle, h.size, h.defers, fun t v hv => let ⟨v', a1, a2⟩ := h.temps t v hv; ⟨v', a1, a2.mono hle⟩, ⟨fun k1 (hf1 : upd (upd S.H k' _) k _ k1 = .fresh) => ?_, fun k1 b1 hb1 => ?_, fun k1 k2 b1 b2 sp1 sp2 hne12 hb1 hb2 ho1 nv q1 q2 => ?_⟩, h.frame, fun k1 b1 sp1 hb1 ho1 q1 => ?_, fun k1 hk1 => let ⟨s, p1, p2⟩ := h.pin k1 hk1; ⟨s, p1, hle _ _ p2⟩⟩
  · by_cases e : k1 = k
    · subst e; rw [jE] at hf1; cases hf1
    · rw [j3 _ _ e] at hf1
      by_cases e' : k1 = k'
      · subst e'; rw [jE] at hf1; cases hf1
      · rw [j3 _ _ e'] at hf1 ⊢; exact h.heap.fresh k1 hf1
  · obtain ⟨_, hh⟩ := get k1 b1 hb1
    rcases hh with ⟨rfl, rfl⟩ | ⟨e', hb⟩
    · refine ⟨_, jE _ _ _, ?_⟩
      rw [jC.own ho', he, hst]
      refine ⟨st, c, g1, by show sp.off + d + (sp.size - d) = _; omega, hl, fun j u hu => ?_⟩
      obtain ⟨v, a1, a2⟩ := g4 (d + j) u (hc j u hu)
      exact ⟨v, by show c[sp.off + d + j]? = _; rw [Nat.add_assoc]; exact a1, a2.mono hle⟩
    · obtain ⟨s, a1, a2⟩ := h.heap.live k1 b1 hb
      exact ⟨s, hle _ _ a1, a2.mono hle⟩
  · obtain ⟨n1, h1⟩ := get k1 b1 hb1
    obtain ⟨n2, h2⟩ := get k2 b2 hb2
    rcases h1 with ⟨rfl, rfl⟩ | ⟨e1, p1⟩ <;> rcases h2 with ⟨rfl, rfl⟩ | ⟨e2, p2⟩
    · exact absurd rfl hne12
    · rw [jE] at q1; cases q1
      exact h.heap.apart k k2 b b2 sp sp2 (Ne.symm n2) hk p2 ho nv hsp (spot _ _ _ e2 p2 q2)
    · rw [jE] at q2; cases q2
      exact h.heap.apart k1 k b1 b sp1 sp n1 p1 hk ho1 (gZ ho) (spot _ _ _ e1 p1 q1) hsp
    · exact h.heap.apart k1 k2 b1 b2 sp1 sp2 hne12 p1 p2 ho1 nv (spot _ _ _ e1 p1 q1) (spot _ _ _ e2 p2 q2)
  · obtain ⟨n1, h1⟩ := get k1 b1 hb1
    rcases h1 with ⟨rfl, rfl⟩ | ⟨e1, p1⟩
    · rw [jE] at q1; cases q1
      exact h.owned k b sp hk ho hsp
    · exact h.owned k1 b1 sp1 p1 ho1 (spot _ _ _ e1 p1 q1)
/-- an append of a slice to a slice: the operands, and the element's type, size and bytes -/
def l8 (P : Program) (ops : Array Oper) (S : St) (i : Nat) : Option (Operand × Operand × TypeId × TypeId × TypeInfo × Value) := match qZ ops S i with
  | some (.call c, true) => match c.callee with
    | .builtin b => match b with
      | .append => match c.args.toList, c.argTypes.toList with
        | [x, y], [t, t'] => bif Nat.beq t t' then match vF P t with
          | some e => match P.info? e with
            | some inf => match inf.zero with
              | some z => bif Nat.beq z.cells.size inf.size then some (x, y, t, e, inf, z) else none
              | none => none
            | none => none
          | none => none
          else none
        | _, _ => none
      | _ => none
    | _ => none
  | _ => none
theorem gN {t e : TypeId} (h : vF P t = some e) : P.underlying t = some (.slice e) := by
  unfold vF at h
  split at h
  · rename_i hu; cases h; exact hu
  · cases h
theorem fH {x y : Operand} {t e : TypeId} {inf : TypeInfo} {z : Value} (h : l8 P ops S i = some (x, y, t, e, inf, z)) :
    qZ ops S i = some (.call ⟨.builtin .append, #[x, y], #[t, t]⟩, true) ∧ P.underlying t = some (.slice e) ∧ P.info? e = some inf ∧ inf.zero = some z ∧ z.cells.size = inf.size := by
  unfold l8 at h
  split at h
  · rename_i c hsh
    obtain ⟨cal, ars, ats⟩ := c
    simp only at h
    split at h
    · split at h
      · split at h
        · rename_i x' y' t1 t2 hars hats
          cases hb : Nat.beq t1 t2 with
          | false => rw [hb] at h; cases h
          | true =>
            have := Nat.eq_of_beq_eq_true hb
            subst this
            rw [hb, cond_true] at h
            split at h
            · rename_i e' he
              split at h
              · rename_i inf' hi
                split at h
                · rename_i z' hz
                  obtain ⟨hq, hh⟩ := j9 h
                  cases hh
                  have ea : ars = #[x, y] := by rw [← Array.toArray_toList (xs := ars), hars]
                  have et : ats = #[t, t] := by rw [← Array.toArray_toList (xs := ats), hats]
                  subst ea; subst et
                  exact ⟨hsh, gN he, hi, hz, Nat.eq_of_beq_eq_true hq⟩
                · cases h
              · cases h
            · cases h
        · cases h
      · cases h
    · cases h
  · cases h
theorem tE {ρ : Ren} {w : World} {sp : Spot} {b : Blk} (h : jC ρ w sp b) {off n : Nat} (hle : off + n ≤ b.cells.length) :
    ∃ c : List Value, c.length = n ∧ (∀ (j : Nat) (v : Value), c[j]? = some v → w.cell? ((⟨sp.block, sp.off + off, none⟩ : Addr).add j) = some v) ∧
      ∀ (j : Nat) (u : Value), ((b.cells.drop off).take n)[j]? = some u → ∃ v, c[j]? = some v ∧ VRel ρ u v := by
  have hc : ∀ j, j < n → ∃ x, w.cell? ((⟨sp.block, sp.off + off, none⟩ : Addr).add j) = some x ∧ ∀ u, b.cells[off + j]? = some u → VRel ρ u x := fun j hj => by
    obtain ⟨x, h1, h2⟩ := h.cell (j := off + j) (u := b.cells[off + j]) (List.getElem?_eq_getElem (by omega))
    refine ⟨x, by rw [add_at, Nat.add_assoc]; exact h1, fun u hu => ?_⟩
    rw [List.getElem?_eq_getElem (by omega)] at hu
    cases hu; exact h2
  let f : Nat → Value := fun j => (w.cell? ((⟨sp.block, sp.off + off, none⟩ : Addr).add j)).getD undef
  have hf : ∀ j, j < n → w.cell? ((⟨sp.block, sp.off + off, none⟩ : Addr).add j) = some (f j) := fun j hj => by
    obtain ⟨x, h1, _⟩ := hc j hj
    simp only [f, h1, Option.getD_some]
  have hget : ∀ j, j < n → ((List.range n).map f)[j]? = some (f j) := fun j hj => by simp only [List.getElem?_map, List.getElem?_range hj, Option.map_some]
  refine ⟨(List.range n).map f, by simp, fun j v hv => ?_, fun j u hu => ?_⟩
  · have hj : j < n := by
      have := (List.getElem?_eq_some_iff.1 hv).1
      simpa using this
    rw [hget j hj] at hv
    cases hv
    exact hf j hj
  · have hj : j < n := by
      have := (List.getElem?_eq_some_iff.1 hu).1
      simp at this; omega
    obtain ⟨x, h1, h2⟩ := hc j hj
    refine ⟨x, ?_, h2 u ?_⟩
    · rw [hget j hj]; simp only [f, h1, Option.getD_some]
    · rw [List.getElem?_take_of_lt hj, List.getElem?_drop] at hu; exact hu
/-- the new block of an append that grows -/
theorem Rel.grown {ρ : Ren} {a : Act} {w : World} (h : Rel C ρ S a w) {k' : Nat} (hf : S.H k' = .fresh) {us vs : List Value} (hl : us.length = vs.length)
    (hv : ∀ (j : Nat) (u : Value), us[j]? = some u → ∃ v, vs[j]? = some v ∧ VRel ρ u v) (zs : Array Value) (e : TypeId) (z : Nat) :
    Ren.le ρ (upd ρ k' (some ⟨w.heap.size, 0, (vs.toArray ++ zs).size, z⟩)) ∧
    Rel C (upd ρ k' (some ⟨w.heap.size, 0, (vs.toArray ++ zs).size, z⟩)) ⟨S.T, wr [(k', .live ⟨us, e, true, z⟩)] S.H⟩ a (w.drew.alloc (.cells (vs.toArray ++ zs) e)) := by
  have hd := h.drawn (w.drawn + 1)
  obtain ⟨hn, hr⟩ := Rel.new hd hf (cells := us) (c := vs.toArray ++ zs) (e := e) (st := z) (by simp; omega) (fun j u hu => by
    obtain ⟨v, h1, h2⟩ := hv j u hu
    refine ⟨v, ?_, h2⟩
    have hj := (List.getElem?_eq_some_iff.1 h1).1
    rw [Array.getElem?_append_left (by simpa using hj)]
    simpa using h1)
  exact ⟨Ren.le_upd _ hn, hr⟩
theorem qDF {ρ : Ren} {us us' vs vs' : List Value} (hl : us.length = vs.length) (h : ∀ (j : Nat) (u : Value), us[j]? = some u → ∃ v, vs[j]? = some v ∧ VRel ρ u v)
    (h' : ∀ (j : Nat) (u : Value), us'[j]? = some u → ∃ v, vs'[j]? = some v ∧ VRel ρ u v) : ∀ (j : Nat) (u : Value), (us ++ us')[j]? = some u → ∃ v, (vs ++ vs')[j]? = some v ∧ VRel ρ u v := fun j u hu => by
  by_cases hj : j < us.length
  · rw [List.getElem?_append_left hj] at hu
    rw [List.getElem?_append_left (by omega)]
    exact h j u hu
  · rw [List.getElem?_append_right (by omega)] at hu
    rw [List.getElem?_append_right (by omega), ← hl]
    exact h' _ u hu
/-- the first append: the slice is nil -/
theorem u3 {x y : Operand} {t e : TypeId} {inf : TypeInfo} {zv : Value} {k2 off2 m c2 k' : Nat} {b2 : Blk} (hs : l8 P ops S i = some (x, y, t, e, inf, zv))
    (hx : ev S x = some (.slice none 0 0)) (hy : ev S y = some (.slice (some ⟨k2, off2, none⟩) m c2)) (hH2 : S.H k2 = .live b2) (hK : S.H k' = .fresh)
    (hz : (Nat.ble (off2 + m * inf.size) b2.cells.length && Nat.ble 1 m) = true) (hB : m * inf.bytes ≤ 140737488355328) (hM : m ≤ 4611686018427387904) :
    Does C P ops i S ⟨[k2, k'], .slice (some ⟨k', 0, none⟩) m 0, [(k', .live ⟨(b2.cells.drop off2).take (m * inf.size), e, true, inf.size⟩)]⟩ := by
  obtain ⟨hsh, hu, hi, hzv, hzs⟩ := fH hs
  refine .of_run hsh fun o ho S' ρ a w hT hH' hr => ?_
  rw [Bool.and_eq_true] at hz
  have l2 := Nat.le_of_ble_eq_true hz.1
  have l3 := Nat.le_of_ble_eq_true hz.2
  have hrx := jM hr (by rw [hT x (by simp [Op.operands, Call.operands])]; exact hx)
  have hry := jM hr (by rw [hT y (by simp [Op.operands, Call.operands])]; exact hy)
  generalize hax : a.eval x = ax at hrx
  generalize hay : a.eval y = ay at hry
  cases hrx with
  | nilSlice =>
    cases hry with
    | slice0 => omega
    | slice _ _ _ _ cap2 sp2 hk2 hc2 hs2 =>
      obtain ⟨q2, f1, f2⟩ := hr.heap.live k2 b2 (by rw [hH' k2 (by simp)]; exact hH2)
      rw [hk2] at f1; cases f1
      obtain ⟨cs, rl, r0, rc⟩ := tE f2 (off := off2) (n := m * inf.size) l2
      have hrun := run_append_nil (P := P) w t o.type e inf zv hu hi hzv ⟨sp2.block, sp2.off + off2, none⟩ m cap2 cs rl r0 (by omega) (by omega) (by omega)
      obtain ⟨hle, hrel⟩ := Rel.grown hr (by rw [hH' k' (by simp)]; exact hK) (us := (b2.cells.drop off2).take (m * inf.size)) (vs := cs) (by rw [rl]; simp; omega) rc (Builtin.zeroCells zv.cells (grownCap w m 0 e - m)) e inf.size
      have hge := grownCap_ge w m 0 e
      refine ⟨_, _, _, .slice (some ⟨w.heap.size, 0, none⟩) m (grownCap w m 0 e), ?_, .inl rfl, ?_, hrel⟩
      · have ev1 : (#[x, y] : Array Operand).map a.eval = #[.slice none 0 0, .slice (some ⟨sp2.block, sp2.off + off2, none⟩) m cap2] := by simp [hax, hay]
        simp only [execOp, ho, resolve, ev1, Sem.run_bind, Sem.run_pure, Result.andThen_ok, invoke, builtin, hrun]
      · refine .slice k' 0 m 0 (grownCap w m 0 e) _ (jE _ _ _) hge ?_
        simp only [Array.size_append, List.size_toArray, rl, size_zeroCells, hzs, ← Nat.add_mul, Nat.zero_add]
        exact Nat.mul_le_mul_right _ (by omega)
theorem wV {x y : Operand} {t e : TypeId} {inf : TypeInfo} {zv : Value} {k off n c k2 off2 m c2 k' : Nat} {b b2 : Blk} (hs : l8 P ops S i = some (x, y, t, e, inf, zv))
    (hx : ev S x = some (.slice (some ⟨k, off, none⟩) n c)) (hy : ev S y = some (.slice (some ⟨k2, off2, none⟩) m c2)) (hH : S.H k = .live b) (hH2 : S.H k2 = .live b2) (hK : S.H k' = .fresh)
    (hz : (b.own && Nat.beq b.elem e && Nat.beq b.step inf.size && vK ((b2.cells.drop off2).take (m * inf.size)) && Nat.ble (off + n * inf.size) b.cells.length && Nat.ble (off2 + m * inf.size) b2.cells.length && Nat.ble 1 m) = true)
    (hB : (n + m) * inf.bytes ≤ 140737488355328) (hM : n + m ≤ 4611686018427387904) :
    Does C P ops i S ⟨[k, k2, k'], .slice (some ⟨k', 0, none⟩) (n + m) 0, [(k, .gone), (k', .live ⟨(b.cells.drop off).take (n * inf.size) ++ (b2.cells.drop off2).take (m * inf.size), e, true, inf.size⟩)]⟩ := by
  obtain ⟨hsh, hu, hi, hzv, hzs⟩ := fH hs
  refine .of_run hsh fun o ho S' ρ a w hT hH' hr => ?_
  simp only [Bool.and_eq_true] at hz
  obtain ⟨⟨⟨⟨⟨⟨b1, b2'⟩, b3⟩, b4⟩, b5⟩, b6⟩, b7⟩ := hz
  have eel := Nat.eq_of_beq_eq_true b2'
  have est := Nat.eq_of_beq_eq_true b3
  have l1 := Nat.le_of_ble_eq_true b5
  have l2 := Nat.le_of_ble_eq_true b6
  have l3 := Nat.le_of_ble_eq_true b7
  have hrx := jM hr (by rw [hT x (by simp [Op.operands, Call.operands])]; exact hx)
  have hry := jM hr (by rw [hT y (by simp [Op.operands, Call.operands])]; exact hy)
  generalize hax : a.eval x = ax at hrx
  generalize hay : a.eval y = ay at hry
  have hHk : S'.H k = .live b := by rw [hH' k (by simp)]; exact hH
  have hHf : S'.H k' = .fresh := by rw [hH' k' (by simp)]; exact hK
  cases hry with
  | slice0 => omega
  | slice _ _ _ _ cap2 sp2 hk2 hc2 hs2 =>
    obtain ⟨q2, f1, f2⟩ := hr.heap.live k2 b2 (by rw [hH' k2 (by simp)]; exact hH2)
    rw [hk2] at f1; cases f1
    obtain ⟨cs, rl, r0, rc⟩ := tE f2 (off := off2) (n := m * inf.size) l2
    have lnew : ((b2.cells.drop off2).take (m * inf.size)).length = m * inf.size := by simp; omega
    cases hrx with
    | slice0 _ _ _ A =>
      have hlen0 : (b.cells.drop off).take (0 * inf.size) = [] := by simp
      rw [hlen0, List.nil_append]
      obtain ⟨hle, hrel⟩ := Rel.grown hr hHf (us := (b2.cells.drop off2).take (m * inf.size)) (vs := cs) (by rw [rl, lnew]) rc (Builtin.zeroCells zv.cells (grownCap w (0 + m) 0 e - (0 + m))) e inf.size
      have hge := grownCap_ge w (0 + m) 0 e
      have hval : VRel (upd ρ k' (some ⟨w.heap.size, 0, (cs.toArray ++ Builtin.zeroCells zv.cells (grownCap w (0 + m) 0 e - (0 + m))).size, inf.size⟩)) (.slice (some ⟨k', 0, none⟩) (0 + m) 0) (.slice (some ⟨w.heap.size, 0, none⟩) (0 + m) (grownCap w (0 + m) 0 e)) := by
        refine .slice k' 0 (0 + m) 0 (grownCap w (0 + m) 0 e) _ (jE _ _ _) hge ?_
        simp only [Array.size_append, List.size_toArray, rl, size_zeroCells, hzs, ← Nat.add_mul, Nat.zero_add]
        exact Nat.mul_le_mul_right _ (by omega)
      have hrel' := hrel.gone k
      rw [← sC] at hrel'
      cases A with
      | none =>
        have hrun := run_append_nil (P := P) w t o.type e inf zv hu hi hzv ⟨sp2.block, sp2.off + off2, none⟩ m cap2 cs rl r0 (by omega) (by omega) (by simp only [Nat.zero_add] at hB; omega)
        refine ⟨_, _, _, .slice (some ⟨w.heap.size, 0, none⟩) (0 + m) (grownCap w (0 + m) 0 e), ?_, .inl rfl, hval, hrel'⟩
        have ev1 : (#[x, y] : Array Operand).map a.eval = #[.slice none 0 0, .slice (some ⟨sp2.block, sp2.off + off2, none⟩) m cap2] := by simp [hax, hay]
        simp only [execOp, ho, resolve, ev1, Sem.run_bind, Sem.run_pure, Result.andThen_ok, invoke, builtin, hrun, Nat.zero_add]
      | some A =>
        have hrun := run_append_grow (P := P) w t o.type e inf zv hu hi hzv A 0 0 [] (by simp) (by simp) ⟨sp2.block, sp2.off + off2, none⟩ m cap2 cs rl r0 (by omega) (by omega) (growslice_fits (by omega) hB)
        refine ⟨_, _, _, .slice (some ⟨w.heap.size, 0, none⟩) (0 + m) (grownCap w (0 + m) 0 e), ?_, .inl rfl, hval, hrel'⟩
        have ev1 : (#[x, y] : Array Operand).map a.eval = #[.slice (some A) 0 0, .slice (some ⟨sp2.block, sp2.off + off2, none⟩) m cap2] := by simp [hax, hay]
        simp only [execOp, ho, resolve, ev1, Sem.run_bind, Sem.run_pure, Result.andThen_ok, invoke, builtin, hrun, Array.empty_append]
    | slice _ _ _ _ cap sp hk hc1 hs1 =>
      obtain ⟨q1, e1, e2⟩ := hr.heap.live k b hHk
      rw [hk] at e1; cases e1
      obtain ⟨co, ol, o0, oc⟩ := tE e2 (off := off) (n := n * inf.size) l1
      have lold : ((b.cells.drop off).take (n * inf.size)).length = n * inf.size := by simp; omega
      have e2' := e2
      rw [jC.own b1] at e2'
      obtain ⟨st, cur, hg, hcs, hcl, hcc⟩ := e2'
      rw [st, est] at hs1
      by_cases hroom : n + m ≤ cap
      · have hmul : (n + m) * inf.size ≤ cap * inf.size := Nat.mul_le_mul_right _ hroom
        rw [Nat.add_mul] at hmul
        have hfl : (b.cells.take (off + n * inf.size)).length = off + n * inf.size := by simp; omega
        obtain ⟨w', c', r1, r2, r3, r4, r5, r6, r7, r8, r9⟩ := j7 (P := P) (ρ := ρ) (blk := sp.block) (o := sp.off) (e := b.elem) (fin := b.cells.take (off + n * inf.size) ++ (b2.cells.drop off2).take (m * inf.size)) ((b2.cells.drop off2).take (m * inf.size)) cs w cur (off + n * inf.size) 0 hg
          (by rw [lnew]; omega) (by rw [lnew, rl]) (fun u hu => List.all_eq_true.1 b4 u hu) rc
          (fun j u hu => by
            rw [List.getElem?_append_right (by omega), hfl, show off + n * inf.size + 0 + j - (off + n * inf.size) = j by omega]; exact hu)
          (fun j u hj hu => by
            by_cases hj' : j < off + n * inf.size
            · rw [List.getElem?_append_left (by omega), List.getElem?_take_of_lt hj'] at hu
              exact hcc j u hu
            · rw [List.getElem?_append_right (by omega), hfl] at hu
              have := (List.getElem?_eq_some_iff.1 hu).1
              omega)
        have hw := Rel.write hr hHk b1 hk (cells := b.cells.take (off + n * inf.size) ++ (b2.cells.drop off2).take (m * inf.size)) (by rw [List.length_append, hfl, lnew]; omega) r2 (by rw [r3]; exact hcs) r4 r5 r6 r7 r8 r9
        rw [eX] at hw
        have hne : k' ≠ k := fun e => by subst e; rw [hHk] at hHf; cases hHf
        obtain ⟨hle, hm⟩ := Rel.move hw (k := k) (k' := k') (d := off) (b := ⟨b.cells.take (off + n * inf.size) ++ (b2.cells.drop off2).take (m * inf.size), b.elem, true, b.step⟩)
          (b' := ⟨(b.cells.drop off).take (n * inf.size) ++ (b2.cells.drop off2).take (m * inf.size), e, true, inf.size⟩) (jE _ _ _) rfl hk (by show upd S'.H k _ k' = _; rw [j3 _ _ hne]; exact hHf) (by omega) rfl eel.symm est.symm
          (by show (_ ++ _ : List Value).length ≤ _; rw [List.length_append, lold, lnew]; omega)
          (fun j u hu => by
            by_cases hj : j < n * inf.size
            · have hu : ((b.cells.drop off).take (n * inf.size) ++ (b2.cells.drop off2).take (m * inf.size))[j]? = some u := hu
              rw [List.getElem?_append_left (by omega), List.getElem?_take_of_lt hj, List.getElem?_drop] at hu
              show (b.cells.take (off + n * inf.size) ++ (b2.cells.drop off2).take (m * inf.size))[off + j]? = some u
              rw [List.getElem?_append_left (by omega), List.getElem?_take_of_lt (by omega)]; exact hu
            · have hu : ((b.cells.drop off).take (n * inf.size) ++ (b2.cells.drop off2).take (m * inf.size))[j]? = some u := hu
              rw [List.getElem?_append_right (by omega), lold] at hu
              show (b.cells.take (off + n * inf.size) ++ (b2.cells.drop off2).take (m * inf.size))[off + j]? = some u
              rw [List.getElem?_append_right (by omega), hfl, show off + j - (off + n * inf.size) = j - n * inf.size by omega]; exact hu)
        have hH2 : wr [(k, .gone), (k', .live ⟨(b.cells.drop off).take (n * inf.size) ++ (b2.cells.drop off2).take (m * inf.size), e, true, inf.size⟩)] (upd S'.H k (.live ⟨b.cells.take (off + n * inf.size) ++ (b2.cells.drop off2).take (m * inf.size), b.elem, true, b.step⟩)) =
            wr [(k, .gone), (k', .live ⟨(b.cells.drop off).take (n * inf.size) ++ (b2.cells.drop off2).take (m * inf.size), e, true, inf.size⟩)] S'.H := by
          funext x
          simp only [wr, findW, upd]
          cases Nat.beq x k <;> rfl
        have hm' : Rel C _ ⟨S'.T, wr [(k, .gone), (k', .live ⟨(b.cells.drop off).take (n * inf.size) ++ (b2.cells.drop off2).take (m * inf.size), e, true, inf.size⟩)] (upd S'.H k (.live ⟨b.cells.take (off + n * inf.size) ++ (b2.cells.drop off2).take (m * inf.size), b.elem, true, b.step⟩))⟩ a w' := hm
        rw [hH2] at hm'
        refine ⟨_, w', _, .slice (some ⟨sp.block, sp.off + off, none⟩) (n + m) cap, ?_, .inl rfl, ?_, hm'⟩
        · have ev1 : (#[x, y] : Array Operand).map a.eval = #[.slice (some ⟨sp.block, sp.off + off, none⟩) n cap, .slice (some ⟨sp2.block, sp2.off + off2, none⟩) m cap2] := by simp [hax, hay]
          have hf := run_firstCells_some (P := P) w inf.size m ⟨sp2.block, sp2.off + off2, none⟩ m cap2 cs rl r0
          have r1' : (storeCells ⟨sp.block, sp.off + off + n * inf.size, none⟩ cs 0).run P w = .ok () w' := by rw [Nat.add_assoc]; exact r1
          have hrun : (Builtin.append_ #[t, t] o.type #[.slice (some ⟨sp.block, sp.off + off, none⟩) n cap, .slice (some ⟨sp2.block, sp2.off + off2, none⟩) m cap2]).run P w = .ok (.slice (some ⟨sp.block, sp.off + off, none⟩) (n + m) cap) w' := by
            simp [Builtin.append_, run_underlying hu, sizeOf, typeInfo, hi, Builtin.lenOf, hroom, hf, add_at, r1']
          simp only [execOp, ho, resolve, ev1, Sem.run_bind, Sem.run_pure, Result.andThen_ok, invoke, builtin, hrun]
        · have : sp.off + off = (⟨sp.block, sp.off + off, sp.size - off, sp.step⟩ : Spot).off + 0 := rfl
          refine .slice k' 0 (n + m) 0 cap ⟨sp.block, sp.off + off, sp.size - off, sp.step⟩ (jE _ _ _) hroom ?_
          show 0 + cap * sp.step ≤ sp.size - off
          rw [st, est]; omega
      · have hrun := run_append_grow (P := P) w t o.type e inf zv hu hi hzv ⟨sp.block, sp.off + off, none⟩ n cap co ol o0 ⟨sp2.block, sp2.off + off2, none⟩ m cap2 cs rl r0 (by omega) (by omega) (growslice_fits (by omega) hB)
        obtain ⟨hle, hrel⟩ := Rel.grown hr hHf (us := (b.cells.drop off).take (n * inf.size) ++ (b2.cells.drop off2).take (m * inf.size)) (vs := co ++ cs) (by rw [List.length_append, List.length_append, rl, ol, lnew, lold])
          (qDF (by rw [lold, ol]) oc rc) (Builtin.zeroCells zv.cells (grownCap w (n + m) cap e - (n + m))) e inf.size
        have hge := grownCap_ge w (n + m) cap e
        have hrel' := hrel.gone k
        rw [← sC] at hrel'
        have harr : (co ++ cs).toArray = co.toArray ++ cs.toArray := by simp
        refine ⟨_, _, _, .slice (some ⟨w.heap.size, 0, none⟩) (n + m) (grownCap w (n + m) cap e), ?_, .inl rfl, ?_, hrel'⟩
        · have ev1 : (#[x, y] : Array Operand).map a.eval = #[.slice (some ⟨sp.block, sp.off + off, none⟩) n cap, .slice (some ⟨sp2.block, sp2.off + off2, none⟩) m cap2] := by simp [hax, hay]
          simp only [execOp, ho, resolve, ev1, Sem.run_bind, Sem.run_pure, Result.andThen_ok, invoke, builtin, hrun, harr]
        · refine .slice k' 0 (n + m) 0 (grownCap w (n + m) cap e) _ (jE _ _ _) hge ?_
          simp only [Array.size_append, List.size_toArray, List.length_append, rl, ol, size_zeroCells, hzs, ← Nat.add_mul, Nat.zero_add]
          exact Nat.mul_le_mul_right _ (by omega)
/-- what an append does, as the kernel walks it -/
def uS (P : Program) (ops : Array Oper) (S : St) (i nid : Nat) : Option Step := match l8 P ops S i with
  | some (x, y, _, e, inf, _) => match ev S x, ev S y with
    | some (.slice none 0 0), some (.slice (some ⟨k2, off2, none⟩) m _) => match S.H k2, S.H nid with
      | .live b2, .fresh => bif Nat.ble (off2 + m * inf.size) b2.cells.length && Nat.ble 1 m && Nat.ble (m * inf.bytes) 140737488355328 && Nat.ble m 4611686018427387904 then
          some ⟨[k2, nid], .slice (some ⟨nid, 0, none⟩) m 0, [(nid, .live ⟨(b2.cells.drop off2).take (m * inf.size), e, true, inf.size⟩)]⟩ else none
      | _, _ => none
    | some (.slice (some ⟨k, off, none⟩) n _), some (.slice (some ⟨k2, off2, none⟩) m _) => match S.H k, S.H k2, S.H nid with
      | .live b, .live b2, .fresh => bif (b.own && Nat.beq b.elem e && Nat.beq b.step inf.size && vK ((b2.cells.drop off2).take (m * inf.size)) && Nat.ble (off + n * inf.size) b.cells.length && Nat.ble (off2 + m * inf.size) b2.cells.length && Nat.ble 1 m) &&
            Nat.ble ((n + m) * inf.bytes) 140737488355328 && Nat.ble (n + m) 4611686018427387904 then
          some ⟨[k, k2, nid], .slice (some ⟨nid, 0, none⟩) (n + m) 0, [(k, .gone), (nid, .live ⟨(b.cells.drop off).take (n * inf.size) ++ (b2.cells.drop off2).take (m * inf.size), e, true, inf.size⟩)]⟩ else none
      | _, _, _ => none
    | _, _ => none
  | none => none
theorem l7 {nid : Nat} {s : Step} (h : uS P ops S i nid = some s) : Does C P ops i S s := by
  unfold uS at h
  split at h
  · rename_i x y t e inf zv hs
    split at h
    · rename_i k2 off2 m c2 hx hy
      split at h
      · rename_i b2 hH2 hK
        obtain ⟨hb, he⟩ := j9 h
        cases he
        rw [Bool.and_eq_true, Bool.and_eq_true] at hb
        exact u3 hs hx hy hH2 hK hb.1.1 (Nat.le_of_ble_eq_true hb.1.2) (Nat.le_of_ble_eq_true hb.2)
      · cases h
    · rename_i k off n c k2 off2 m c2 hx hy
      split at h
      · rename_i b b2 hH hH2 hK
        obtain ⟨hb, he⟩ := j9 h
        cases he
        rw [Bool.and_eq_true, Bool.and_eq_true] at hb
        exact wV hs hx hy hH hH2 hK hb.1.1 (Nat.le_of_ble_eq_true hb.1.2) (Nat.le_of_ble_eq_true hb.2)
      · cases h
    · cases h
  · cases h
theorem jQ (nid : Nat) (h : (uS P ops S i nid).isSome = true := by kernel_rfl) : Does C P ops i S ((uS P ops S i nid).getD default) := by
  cases hs : uS P ops S i nid with
  | none => rw [hs] at h; cases h
  | some s => exact l7 hs
end
open Go Go.Proofs
section
variable {C : Ctx} {P : Program} {f : Func} {n : Nat} {S : St} {Q : Exit → St → Prop}
theorem Runs.e {ops : Array Oper} {i : Nat} (k nid : Nat) (ho : uQ P ops k i S nid = true := by kernel_rfl) (hw : ∀ w, tM P ops w k i S nid = tL P ops w k i S nid := by intro w; kernel_rfl) : Runs C P ops i S (eS P ops k i S nid ++ []) (eR P ops k i S nid) := Runs.a k nid (.nil _ _) ho hw
theorem aw_e (y k nid : Nat) (h : AW C P (sb f y) (eR P (opsL (sb f n)) k 0 S nid) Q) (ho : uQ P (opsL (sb f n)) k 0 S nid = true := by kernel_rfl) (hw : ∀ w, tM P (opsL (sb f n)) w k 0 S nid = tL P (opsL (sb f n)) w k 0 S nid := by intro w; kernel_rfl) (hk : isSR (sb f n) false = true := by kernel_rfl) (hy : cK (sb f n) = sb f y := by kernel_rfl)
    (hd : dstB (opsL (sb f n)) C.n = true := by kernel_rfl) (hn : (eS P (opsL (sb f n)) k 0 S nid ++ []).length = (opsL (sb f n)).size := by kernel_rfl) : AW C P (sb f n) S Q := aw_p y (Runs.a k nid (.nil _ _) ho hw) h hk hy hd hn
theorem aw_e1 (k nid : Nat) (h : Q .normal (eR P (opsL (sb f n)) k 0 S nid)) (ho : uQ P (opsL (sb f n)) k 0 S nid = true := by kernel_rfl) (hw : ∀ w, tM P (opsL (sb f n)) w k 0 S nid = tL P (opsL (sb f n)) w k 0 S nid := by intro w; kernel_rfl) (hk : isR (sb f n) false = true := by kernel_rfl) (hd : dstB (opsL (sb f n)) C.n = true := by kernel_rfl)
    (hn : (eS P (opsL (sb f n)) k 0 S nid ++ []).length = (opsL (sb f n)).size := by kernel_rfl) : AW C P (sb f n) S Q := qW (Runs.a k nid (.nil _ _) ho hw) h hk hd hn
variable {ops : Array Oper} {i : Nat}
theorem cB {g m : Nat} {args0 : List Value} {pre0 post0 : List (Nat × Blk)} {v0 : Value} (ars : Array Operand) (ats : Array TypeId) (vs : List Value) (r : Nat) (pre post : List (Nat × Blk)) (v : Value) (sl : List Nat) (ac : AC P g m args0 pre0 v0 post0)
    (ha : RenL (fun j => sl.getD j 0) (· < m) args0 ((#[] : Array Value).toList ++ vs ++ (#[] : Array Value).toList)) (hpre : RenH (fun j => sl.getD j 0) (· < m) pre0 pre) (hpost : RenH (fun j => sl.getD j 0) (· < m + r) post0 post) (hv : RenV (fun j => sl.getD j 0) (· < m + r) v0 v)
    (hs : qZ ops S i = some (.call ⟨.value (.func g), ars, ats⟩, true) := by kernel_rfl) (hf : ev S (.func g) = some (.func (.func g) #[] #[]) := by kernel_rfl) (hargs : evs S ars.toList = some vs := by kernel_rfl) (hg : wJ P g = true := by kernel_rfl)
    (hpreS : pre.map (fun x => S.H x.1) = pre.map (fun x => .live x.2) := by kernel_rfl) (hk : tH m r (pre0.map (·.1)) (post0.map (·.1)) sl (mX pre) = true := by kernel_rfl) (hnew : (List.range' m r).map (fun j => S.H (sl.getD j 0)) = (List.range' m r).map (fun _ => .fresh) := by kernel_rfl) :
    Does C P ops i S ⟨pre.map (·.1) ++ (List.range' m r).map (fun j => sl.getD j 0), v, jA pre post⟩ := fE sl hs hf hargs hg ac ha hpre hpreS hk hnew hpost hv
theorem iX (t : TypeId) (x y k off n z : Nat) (j : Int) (h0 : 0 ≤ j) (h1 : j < n) (hs : qZ ops S i = some (.indexAddr t (.tmp x) (.tmp y), true) := by kernel_rfl) (hx : ev S (.tmp x) = some (.slice (some ⟨k, off, none⟩) n 0) := by kernel_rfl) (hy : ev S (.tmp y) = some (.int .i64 j) := by kernel_rfl) (hsl : slcB P t = true := by kernel_rfl) (hz : gA P t = some z := by kernel_rfl) :
    Does C P ops i S ⟨[], .pointer (some ⟨k, off + j.toNat * z, none⟩), []⟩ := q7 hs hx hy hsl hz h0 h1
theorem lD (t : TypeId) (x k off : Nat) (b : Blk) (v : Value) (hv : ldV P t b.cells off = some v) (hs : qZ ops S i = some (.load t (.tmp x), true) := by kernel_rfl) (hx : ev S (.tmp x) = some (.pointer (some ⟨k, off, none⟩)) := by kernel_rfl) (hH : S.H k = .live b := by kernel_rfl) : Does C P ops i S ⟨[k], v, []⟩ := bM hs hx hH hv
end
end Go.Proofs.Ytadifmimefmcnaa.Am
