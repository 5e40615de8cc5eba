import Derived.Orders
import Derived.Below
import Derived.Deep.Draws
import Derived.Laws.Sem
import Derived.KernelRfl
import Derived.Laws.Cells
import Derived.Laws.Entries
import Derived.Laws.Rows
import Derived.Laws.StructEq
import Derived.ChangeKeysEq
set_option maxHeartbeats 4000000
set_option linter.unusedVariables false
set_option linter.unusedSimpArgs false
namespace Go.Proofs.Ytadifmimefmcnaa.Am
open Go
def upd {α : Type} (f : Nat → α) (k : Nat) (v : α) : Nat → α := fun n => bif Nat.beq n k then v else f n
theorem jE {α : Type} (f : Nat → α) (k : Nat) (v : α) : upd f k v k = v := by simp [upd]
theorem j3 {α : Type} (f : Nat → α) {k n : Nat} (v : α) (h : n ≠ k) : upd f k v n = f n := by
  have : Nat.beq n k = false := by
    cases hb : Nat.beq n k with
    | false => rfl
    | true => exact absurd (Nat.eq_of_beq_eq_true hb) h
  simp [upd, this]
/-- Where an abstract block lies. -/
structure Spot where
  block : Nat
  off : Nat
  size : Nat
  step : Nat
abbrev Ren := Nat → Option Spot
def Ren.le (ρ ρ' : Ren) : Prop := ∀ k sp, ρ k = some sp → ρ' k = some sp
theorem Ren.le_refl (ρ : Ren) : Ren.le ρ ρ := fun _ _ h => h
theorem Ren.le_trans {a b c : Ren} (h : Ren.le a b) (k : Ren.le b c) : Ren.le a c := fun x sp hx => k x sp (h x sp hx)
theorem Ren.le_upd {ρ : Ren} {k : Nat} (sp : Spot) (h : ρ k = none) : Ren.le ρ (upd ρ k (some sp)) := fun x s hx => by
  by_cases e : x = k
  · subst e; rw [h] at hx; cases hx
  · rw [j3 _ _ e]; exact hx
/-- An abstract value (addresses are names of blocks) and the machine's. -/
inductive VRel (ρ : Ren) : Value → Value → Prop
  | bool (b : Bool) : VRel ρ (.bool b) (.bool b)
  | int (k : IntKind) (n : Int) : VRel ρ (.int k n) (.int k n)
  | string (s : ByteArray) : VRel ρ (.string s) (.string s)
  | ptr (k off : Nat) (sp : Spot) (h : ρ k = some sp) : VRel ρ (.pointer (some ⟨k, off, none⟩)) (.pointer (some ⟨sp.block, sp.off + off, none⟩))
  | nilPtr : VRel ρ (.pointer none) (.pointer none)
  | nilFunc : VRel ρ .nilFunc .nilFunc
  | nilIface : VRel ρ .nilIface .nilIface
  | nilSlice : VRel ρ (.slice none 0 0) (.slice none 0 0)
  | slice (k off len c cap : Nat) (sp : Spot) (h : ρ k = some sp) (hc : len ≤ cap) (hs : off + cap * sp.step ≤ sp.size) :
      VRel ρ (.slice (some ⟨k, off, none⟩) len c) (.slice (some ⟨sp.block, sp.off + off, none⟩) len cap)
  | slice0 (k off c : Nat) (A : Option Addr) : VRel ρ (.slice (some ⟨k, off, none⟩) 0 c) (.slice A 0 0)
  | func (fn : Fn) (xs ys cs ds : Array Value) (h : xs.size = ys.size) (hv : ∀ i (hi : i < xs.size), VRel ρ xs[i] (ys[i]'(h ▸ hi)))
      (h' : cs.size = ds.size) (hv' : ∀ i (hi : i < cs.size), VRel ρ cs[i] (ds[i]'(h' ▸ hi))) : VRel ρ (.func fn xs cs) (.func fn ys ds)
  | agg (xs ys : Array Value) (h : xs.size = ys.size) (hv : ∀ i (hi : i < xs.size), VRel ρ xs[i] (ys[i]'(h ▸ hi))) : VRel ρ (.agg xs) (.agg ys)
  | tuple (xs ys : Array Value) (h : xs.size = ys.size) (hv : ∀ i (hi : i < xs.size), VRel ρ xs[i] (ys[i]'(h ▸ hi))) : VRel ρ (.tuple xs) (.tuple ys)
theorem VRel.mono {ρ ρ' : Ren} (h : Ren.le ρ ρ') {v v' : Value} (r : VRel ρ v v') : VRel ρ' v v' := by
  induction r with
  | bool b => exact .bool b
  | int k n => exact .int k n
  | string s => exact .string s
  | ptr k off sp hk => exact .ptr k off sp (h _ _ hk)
  | nilPtr => exact .nilPtr
  | nilFunc => exact .nilFunc
  | nilIface => exact .nilIface
  | nilSlice => exact .nilSlice
  | slice k off len c cap sp hk hc hs => exact .slice k off len c cap sp (h _ _ hk) hc hs
  | slice0 k off c A => exact .slice0 k off c A
  | func fn xs ys cs ds e _ e' _ ih ih' => exact .func fn xs ys cs ds e ih e' ih'
  | agg xs ys e _ ih => exact .agg xs ys e ih
  | tuple xs ys e _ ih => exact .tuple xs ys e ih
/-- All names in a value meet p. -/
inductive Only (p : Nat → Prop) : Value → Prop
  | bool (b : Bool) : Only p (.bool b)
  | int (k : IntKind) (n : Int) : Only p (.int k n)
  | string (s : ByteArray) : Only p (.string s)
  | ptr (k off : Nat) (h : p k) : Only p (.pointer (some ⟨k, off, none⟩))
  | nilPtr : Only p (.pointer none)
  | nilFunc : Only p .nilFunc
  | nilIface : Only p .nilIface
  | nilSlice : Only p (.slice none 0 0)
  | slice (k off len c : Nat) (h : p k) : Only p (.slice (some ⟨k, off, none⟩) len c)
  | func (fn : Fn) (xs cs : Array Value) (hv : ∀ i (hi : i < xs.size), Only p xs[i]) (hv' : ∀ i (hi : i < cs.size), Only p cs[i]) : Only p (.func fn xs cs)
  | agg (xs : Array Value) (hv : ∀ i (hi : i < xs.size), Only p xs[i]) : Only p (.agg xs)
  | tuple (xs : Array Value) (hv : ∀ i (hi : i < xs.size), Only p xs[i]) : Only p (.tuple xs)
theorem VRel.congr {ρ ρ' : Ren} {p : Nat → Prop} {v v' : Value} (r : VRel ρ v v') (o : Only p v) (h : ∀ k, p k → ρ k = ρ' k) : VRel ρ' v v' := by
  induction r with
  | bool b => exact .bool b
  | int k n => exact .int k n
  | string s => exact .string s
  | ptr k off sp hk => cases o with | ptr _ _ hp => exact .ptr k off sp (h k hp ▸ hk)
  | nilPtr => exact .nilPtr
  | nilFunc => exact .nilFunc
  | nilIface => exact .nilIface
  | nilSlice => exact .nilSlice
  | slice k off len c cap sp hk hc hs => cases o with | slice _ _ _ _ hp => exact .slice k off len c cap sp (h k hp ▸ hk) hc hs
  | slice0 k off c A => exact .slice0 k off c A
  | func fn xs ys cs ds e _ e' _ ih ih' => cases o with | func _ _ _ a b => exact .func fn xs ys cs ds e (fun i hi => ih i hi (a i hi)) e' (fun i hi => ih' i hi (b i hi))
  | agg xs ys e _ ih => cases o with | agg _ a => exact .agg xs ys e (fun i hi => ih i hi (a i hi))
  | tuple xs ys e _ ih => cases o with | tuple _ a => exact .tuple xs ys e (fun i hi => ih i hi (a i hi))
theorem Only.mono {p q : Nat → Prop} (h : ∀ k, p k → q k) {v : Value} (o : Only p v) : Only q v := by
  induction o with
  | bool b => exact .bool b
  | int k n => exact .int k n
  | string s => exact .string s
  | ptr k off hk => exact .ptr k off (h _ hk)
  | nilPtr => exact .nilPtr
  | nilFunc => exact .nilFunc
  | nilIface => exact .nilIface
  | nilSlice => exact .nilSlice
  | slice k off len c hk => exact .slice k off len c (h _ hk)
  | func fn xs cs _ _ ih ih' => exact .func fn xs cs ih ih'
  | agg xs _ ih => exact .agg xs ih
  | tuple xs _ ih => exact .tuple xs ih
structure Blk where
  cells : List Value
  elem : TypeId
  own : Bool
  step : Nat
inductive Cell where
  | fresh
  | gone
  | live (b : Blk)
structure St where
  T : Nat → Option Value
  H : Nat → Cell
def jC (ρ : Ren) (w : World) (sp : Spot) (b : Blk) : Prop := sp.step = b.step ∧
  if b.own = true then ∃ c : Array Value, w.heap[sp.block]? = some (.cells c b.elem (0, 0)) ∧ sp.off + sp.size = c.size ∧ b.cells.length ≤ sp.size ∧
      ∀ (i : Nat) (u : Value), b.cells[i]? = some u → ∃ v, c[sp.off + i]? = some v ∧ VRel ρ u v
  else (b.cells = [] ∨ sp.block < w.heap.size) ∧ ∀ (i : Nat) (u : Value), b.cells[i]? = some u → ∃ v, w.cell? ⟨sp.block, sp.off + i, none⟩ = some v ∧ VRel ρ u v
/-- A block that is only read and has no cells. -/
def Void (b : Blk) : Prop := b.own = false ∧ b.cells = []
theorem gZ {b : Blk} (h : b.own = true) : ¬ Void b := fun v => by rw [v.1] at h; cases h
theorem jC.own {ρ : Ren} {w : World} {sp : Spot} {b : Blk} (h : b.own = true) : jC ρ w sp b ↔ sp.step = b.step ∧ ∃ c : Array Value, w.heap[sp.block]? = some (.cells c b.elem (0, 0)) ∧ sp.off + sp.size = c.size ∧ b.cells.length ≤ sp.size ∧
      ∀ (i : Nat) (u : Value), b.cells[i]? = some u → ∃ v, c[sp.off + i]? = some v ∧ VRel ρ u v := by unfold jC; rw [if_pos h]
theorem jC.ro {ρ : Ren} {w : World} {sp : Spot} {b : Blk} (h : ¬ b.own = true) : jC ρ w sp b ↔ sp.step = b.step ∧ (b.cells = [] ∨ sp.block < w.heap.size) ∧ ∀ (i : Nat) (u : Value), b.cells[i]? = some u → ∃ v, w.cell? ⟨sp.block, sp.off + i, none⟩ = some v ∧ VRel ρ u v := by
  unfold jC; rw [if_neg h]
/-- From one telling of a block to another one, cell by cell. -/
theorem jC.map {ρ ρ' : Ren} {w : World} {sp : Spot} {b b' : Blk} (k : jC ρ w sp b) (he : b'.elem = b.elem) (ho : b'.own = b.own) (hs : b'.step = b.step) (hl : b'.cells.length ≤ b.cells.length)
    (hc : ∀ (i : Nat) (u : Value), b'.cells[i]? = some u → ∃ x, b.cells[i]? = some x ∧ ∀ v, VRel ρ x v → VRel ρ' u v) : jC ρ' w sp b' := by
  by_cases o : b.own = true
  · have o' : b'.own = true := by rw [ho]; exact o
    rw [jC.own o] at k
    rw [jC.own o', he, hs]
    obtain ⟨h1, c, h2, h3, h4, h5⟩ := k
    exact ⟨h1, c, h2, h3, by omega, fun i u hu => let ⟨x, e1, e2⟩ := hc i u hu; let ⟨v, a, r⟩ := h5 i x e1; ⟨v, a, e2 v r⟩⟩
  · have o' : ¬ b'.own = true := by rw [ho]; exact o
    rw [jC.ro o] at k
    rw [jC.ro o', hs]
    exact ⟨k.1, k.2.1.imp (fun e => List.length_eq_zero_iff.1 (by rw [e] at hl; simpa using hl)) id, fun i u hu => let ⟨x, e1, e2⟩ := hc i u hu; let ⟨v, a, r⟩ := k.2.2 i x e1; ⟨v, a, e2 v r⟩⟩
theorem jC.mono {ρ ρ' : Ren} (h : Ren.le ρ ρ') {w : World} {sp : Spot} {b : Blk} (k : jC ρ w sp b) : jC ρ' w sp b :=
  k.map rfl rfl rfl (Nat.le_refl _) (fun _ u hu => ⟨u, hu, fun _ r => r.mono h⟩)
theorem jC.lt {ρ : Ren} {w : World} {sp : Spot} {b : Blk} (k : jC ρ w sp b) (nv : ¬ Void b) : sp.block < w.heap.size := by
  by_cases o : b.own = true
  · rw [jC.own o] at k
    obtain ⟨_, c, h1, _⟩ := k; exact (Array.getElem?_eq_some_iff.1 h1).1
  · rw [jC.ro o] at k; exact k.2.1.resolve_left (fun e => nv ⟨Bool.eq_false_iff.2 o, e⟩)
theorem jC.void {ρ ρ' : Ren} {w w' : World} {sp : Spot} {b : Blk} (k : jC ρ w sp b) (v : Void b) : jC ρ' w' sp b := by
  have o : ¬ b.own = true := by rw [v.1]; decide
  rw [jC.ro o] at *
  exact ⟨k.1, .inl v.2, fun i u hu => by rw [v.2] at hu; simp at hu⟩
theorem jC.same {ρ : Ren} {w w' : World} {sp : Spot} {b : Blk} (k : jC ρ w sp b) (h : ¬ Void b → w'.heap[sp.block]? = w.heap[sp.block]?) : jC ρ w' sp b := by
  by_cases nv : Void b
  · exact k.void nv
  have h := h nv
  have hlt := k.lt nv
  have hlt' : sp.block < w'.heap.size := by
    have h1 : w.heap[sp.block]? = some w.heap[sp.block] := Array.getElem?_eq_getElem hlt
    rw [h1] at h
    exact (Array.getElem?_eq_some_iff.1 h).1
  by_cases o : b.own = true
  · rw [jC.own o] at *; rw [h]; exact k
  · rw [jC.ro o] at *
    exact ⟨k.1, .inr hlt', fun i u hu => let ⟨v, a, r⟩ := k.2.2 i u hu; ⟨v, (by rw [World.cell?] at a ⊢; simp only [h]; exact a), r⟩⟩
structure HOk (ρ : Ren) (w : World) (H : Nat → Cell) : Prop where
  fresh : ∀ k, H k = .fresh → ρ k = none
  live : ∀ k b, H k = .live b → ∃ sp, ρ k = some sp ∧ jC ρ w sp b
  apart : ∀ k k' b b' sp sp', k ≠ k' → H k = .live b → H k' = .live b' → b.own = true → ¬ Void b' → ρ k = some sp → ρ k' = some sp' → sp.block ≠ sp'.block
structure Ctx where
  w0 : World
  W : Nat → Prop
  n : Nat
  m : Nat
  pin : Ren
  ds : List Deferred
structure FrameOk (w0 : World) (W : Nat → Prop) (w : World) : Prop where
  os : w.os = w0.os
  tape : w.tape = w0.tape
  output : w.output = w0.output
  size : w0.heap.size ≤ w.heap.size
  block : ∀ b, b < w0.heap.size → ¬ W b → w.heap[b]? = w0.heap[b]?
theorem FrameOk.refl (w : World) (W : Nat → Prop) : FrameOk w W w := ⟨rfl, rfl, rfl, Nat.le_refl _, fun _ _ _ => rfl⟩
structure Rel (C : Ctx) (ρ : Ren) (S : St) (a : Act) (w : World) : Prop where
  size : a.tmps.size = C.n
  defers : a.defers = C.ds
  temps : ∀ t v, S.T t = some v → ∃ v', a.tmps[t]? = some v' ∧ VRel ρ v v'
  heap : HOk ρ w S.H
  frame : FrameOk C.w0 C.W w
  owned : ∀ k b sp, S.H k = .live b → b.own = true → ρ k = some sp → C.W sp.block ∨ C.w0.heap.size ≤ sp.block
  pin : ∀ k, k < C.m → ∃ sp, C.pin k = some sp ∧ ρ k = some sp
theorem HOk.drawn {ρ : Ren} {w : World} {H : Nat → Cell} (h : HOk ρ w H) (n : Nat) : HOk ρ { w with drawn := n } H :=
  ⟨h.fresh, fun k b hk => let ⟨sp, a, r⟩ := h.live k b hk; ⟨sp, a, r.same (fun _ => rfl)⟩, h.apart⟩
theorem Rel.drawn {C : Ctx} {ρ : Ren} {S : St} {a : Act} {w : World} (h : Rel C ρ S a w) (n : Nat) : Rel C ρ S a { w with drawn := n } :=
  ⟨h.size, h.defers, h.temps, h.heap.drawn n, ⟨h.frame.os, h.frame.tape, h.frame.output, h.frame.size, h.frame.block⟩, h.owned, h.pin⟩
structure Eff where
  val : Value
  writes : List (Nat × Cell)
structure Step where
  reads : List Nat
  eff : Eff
instance : Inhabited Step := ⟨⟨[], ⟨undef, []⟩⟩⟩
def findW : List (Nat × Cell) → Nat → Option Cell
  | [], _ => none
  | (k, c) :: l, n => bif Nat.beq n k then some c else findW l n
def wr (l : List (Nat × Cell)) (H : Nat → Cell) : Nat → Cell := fun n => (findW l n).getD (H n)
theorem yE {l : List (Nat × Cell)} {n : Nat} (h : n ∉ l.map (·.1)) : findW l n = none := by
  induction l with
  | nil => rfl
  | cons x l ih =>
    obtain ⟨k, c⟩ := x
    simp only [List.map_cons, List.mem_cons, not_or] at h
    have : Nat.beq n k = false := by
      cases hb : Nat.beq n k with
      | false => rfl
      | true => exact absurd (Nat.eq_of_beq_eq_true hb) h.1
    simp only [findW, this, cond_false]
    exact ih h.2
theorem gK {l : List (Nat × Cell)} {n : Nat} (h : n ∈ l.map (·.1)) : ∃ c, findW l n = some c ∧ (n, c) ∈ l := by
  induction l with
  | nil => simp at h
  | cons x l ih =>
    obtain ⟨k, c⟩ := x
    simp only [findW]
    cases hb : Nat.beq n k with
    | true => exact ⟨c, rfl, by rw [Nat.eq_of_beq_eq_true hb]; exact List.mem_cons_self⟩
    | false =>
      simp only [cond_false]
      simp only [List.map_cons, List.mem_cons] at h
      rcases h with h | h
      · subst h; simp at hb
      · obtain ⟨c', h1, h2⟩ := ih h
        exact ⟨c', h1, List.mem_cons_of_mem _ h2⟩
def putT (T : Nat → Option Value) (d : Option Tmp) (v : Value) : Nat → Option Value :=
  match d with
  | some d => upd T d (some v)
  | none => T
theorem cN (T : Nat → Option Value) (t : Tmp) (v : Value) : putT T (some t) v t = some v := jE _ _ _
theorem sP {T : Nat → Option Value} {d : Option Tmp} {v : Value} {t : Tmp} (h : d ≠ some t) : putT T d v t = T t := by
  cases d with
  | none => rfl
  | some d => exact j3 _ _ (fun e => h (by rw [e]))
theorem c6 {l : Array Bool} {j : Nat} (h : j < l.size) : l.getD j true = l.getD j false := by simp [Array.getD, h]
def St.put (S : St) (d : Option Tmp) (E : Eff) : St := ⟨putT S.T d E.val, wr E.writes S.H⟩
/-- What operation i of a region does in state S, and in every state that is like it where the operation looks. -/
def Does (C : Ctx) (P : Program) (ops : Array Oper) (i : Nat) (S : St) (s : Step) : Prop :=
  ∀ (o : Oper), ops[i]? = some o → (∀ d, o.dst = some d → d < C.n) → ∀ (S' : St) (ρ : Ren) (a : Act) (w : World) (K : Act → World → Prop) (Q : Exit → Act → World → Prop),
    (∀ t, t ∈ o.looksAt ops → S'.T t = S.T t) → (∀ k, k ∈ s.reads → S'.H k = S.H k) → Rel C ρ S' a w →
    (∀ ρ' a' w', Rel C ρ' (S'.put o.dst s.eff) a' w' → K a' w') → wpOp P ops Q i K a w
section
variable (ops : Array Oper) (steps : List Step)
def gE (i : Nat) : Option Tmp := (ops[i]?).bind (·.dst)
def xS (i : Nat) : Eff := (steps.getD i default).eff
def stD (D : Nat → Bool) (S0 : St) : Nat → St
  | 0 => S0
  | i + 1 => bif D i then (stD D S0 i).put (gE ops i) (xS steps i) else stD D S0 i
theorem bV {D D' : Nat → Bool} {S0 : St} {t : Nat} : ∀ {n : Nat}, (∀ j, j < n → gE ops j = some t → D j = D' j) →
    (stD ops steps D S0 n).T t = (stD ops steps D' S0 n).T t
  | 0, _ => rfl
  | n + 1, h => by
    have ih := bV (S0 := S0) (t := t) (n := n) (fun j hj => h j (Nat.lt_succ_of_lt hj))
    simp only [stD]
    by_cases hd : gE ops n = some t
    · rw [h n (Nat.lt_succ_self n) hd]
      cases D' n
      · exact ih
      · simp only [cond_true, St.put, hd, cN]
    · have key : ∀ S : St, (S.put (gE ops n) (xS steps n)).T t = S.T t := fun S => sP hd
      cases D n <;> cases D' n <;> simp only [cond_true, cond_false, key] <;> exact ih
theorem bW {D D' : Nat → Bool} {S0 : St} {k : Nat} : ∀ {n : Nat}, (∀ j, j < n → k ∈ (xS steps j).writes.map (·.1) → D j = D' j) →
    (stD ops steps D S0 n).H k = (stD ops steps D' S0 n).H k
  | 0, _ => rfl
  | n + 1, h => by
    have ih := bW (S0 := S0) (k := k) (n := n) (fun j hj => h j (Nat.lt_succ_of_lt hj))
    simp only [stD]
    by_cases hd : k ∈ (xS steps n).writes.map (·.1)
    · rw [h n (Nat.lt_succ_self n) hd]
      obtain ⟨c, hc, _⟩ := gK hd
      cases D' n
      · exact ih
      · simp only [cond_true, St.put, wr, hc, Option.getD_some]
    · have key : ∀ S : St, (S.put (gE ops n) (xS steps n)).H k = S.H k := fun S => by simp only [St.put, wr, yE hd, Option.getD_none]
      cases D n <;> cases D' n <;> simp only [cond_true, cond_false, key] <;> exact ih
theorem stD_lt {S0 : St} {i : Nat} : ∀ {n : Nat}, i ≤ n → stD ops steps (fun j => decide (j < i)) S0 n = stD ops steps (fun _ => true) S0 i := by
  have base : ∀ m, m ≤ i → stD ops steps (fun j => decide (j < i)) S0 m = stD ops steps (fun _ => true) S0 m := by
    intro m
    induction m with
    | zero => intro _; rfl
    | succ m ih => intro hm; simp only [stD]; rw [ih (by omega)]; simp [show m < i by omega]
  intro n hn
  induction n with
  | zero => have : i = 0 := by omega
            subst this; rfl
  | succ n ih =>
    by_cases e : i = n + 1
    · subst e; exact base _ (Nat.le_refl _)
    · simp only [stD]; rw [ih (by omega)]; simp [show ¬ n < i by omega]
theorem rB {D : Nat → Bool} {S0 : St} {t i : Nat} (hi : D i = true) (hd : gE ops i = some t) : ∀ {n : Nat}, i < n →
    (∀ j, i < j → j < n → gE ops j = some t → D j = false) → (stD ops steps D S0 n).T t = some (xS steps i).val
  | 0, h, _ => by omega
  | n + 1, h, hl => by
    simp only [stD]
    by_cases e : i = n
    · subst e; simp only [hi, cond_true, St.put, hd, cN]
    · have ih := rB (S0 := S0) (n := n) hi hd (by omega) (fun j a b => hl j a (by omega))
      by_cases hdn : gE ops n = some t
      · rw [hl n (by omega) (by omega) hdn]; exact ih
      · have key : ∀ S : St, (S.put (gE ops n) (xS steps n)).T t = S.T t := fun S => sP hdn
        cases D n <;> simp only [cond_true, cond_false, key] <;> exact ih
theorem rC {D : Nat → Bool} {S0 : St} {k i : Nat} {c : Cell} (hi : D i = true) (hd : findW (xS steps i).writes k = some c) : ∀ {n : Nat}, i < n →
    (∀ j, i < j → j < n → k ∈ (xS steps j).writes.map (·.1) → D j = false) → (stD ops steps D S0 n).H k = c
  | 0, h, _ => by omega
  | n + 1, h, hl => by
    simp only [stD]
    by_cases e : i = n
    · subst e; simp only [hi, cond_true, St.put, wr, hd, Option.getD_some]
    · have ih := rC (S0 := S0) (n := n) hi hd (by omega) (fun j a b => hl j a (by omega))
      by_cases hdn : k ∈ (xS steps n).writes.map (·.1)
      · rw [hl n (by omega) (by omega) hdn]; exact ih
      · have key : ∀ S : St, (S.put (gE ops n) (xS steps n)).H k = S.H k := fun S => by simp only [St.put, wr, yE hdn, Option.getD_none]
        cases D n <;> simp only [cond_true, cond_false, key] <;> exact ih
/-- What must have come up before operation i: by the edges; and all of it. -/
def deps (i : Nat) : List Nat := match ops[i]? with
  | some o => (o.after.toList.filter (fun e => Region.binds .any e)).map (·.on)
  | none => []
def anc (A : List (List Nat)) (i : Nat) : List Nat := A.getD i []
def tU (A : List (List Nat)) : Bool := (List.range ops.size).all fun i =>
  (deps ops i).all (fun j => Nat.blt j i) && (anc A i).all fun j => Nat.blt j i && (deps ops i).any fun e => Nat.beq j e || (anc A e).any (Nat.beq j)
def linked (A : List (List Nat)) (i j : Nat) : Bool := (anc A i).any (Nat.beq j) || (anc A j).any (Nat.beq i)
def looks (i : Nat) : List Tmp := match ops[i]? with
  | some o => o.looksAt ops ++ o.dst.toList
  | none => []
def gH (A : List (List Nat)) : Bool := (List.range ops.size).all fun i => (List.range ops.size).all fun j =>
  Nat.beq i j || (match gE ops j with | some t => !(looks ops i).any (Nat.beq t) | none => true) || linked A i j
def gF (s : Step) : List Nat := s.eff.writes.map (·.1)
def vH (A : List (List Nat)) : Bool := (List.range ops.size).all fun i => (List.range ops.size).all fun j =>
  Nat.beq i j || (gF (steps.getD j default)).all (fun k => !((steps.getD i default).reads ++ gF (steps.getD i default)).any (Nat.beq k)) || linked A i j
end
theorem gB {a b : Nat} (h : Nat.blt a b = true) : a < b := Nat.le_of_ble_eq_true h
theorem any_beq {l : List Nat} {j : Nat} : l.any (Nat.beq j) = true ↔ j ∈ l := by
  rw [List.any_eq_true]
  constructor
  · rintro ⟨x, hx, h⟩; rw [Nat.eq_of_beq_eq_true h]; exact hx
  · intro h; exact ⟨j, h, by simp⟩
section
variable {ops : Array Oper} {steps : List Step} {A : List (List Nat)}
theorem mL (hA : tU ops A = true) {D : Nat → Bool} (hD : ∀ j, D j = true → ∀ e ∈ deps ops j, D e = true) (hb : ∀ j, D j = true → j < ops.size) :
    ∀ (j : Nat), D j = true → ∀ i ∈ anc A j, D i = true := by
  intro j
  induction j using Nat.strongRecOn with
  | _ j ih =>
    intro hj i hi
    have h := List.all_eq_true.1 hA j (List.mem_range.2 (hb j hj))
    rw [Bool.and_eq_true] at h
    have h2 := List.all_eq_true.1 h.2 i hi
    rw [Bool.and_eq_true, List.any_eq_true] at h2
    obtain ⟨_, e, he, h3⟩ := h2
    have hlt := List.all_eq_true.1 h.1 e he
    have hlt' : e < j := gB hlt
    rw [Bool.or_eq_true] at h3
    rcases h3 with h3 | h3
    · rw [Nat.eq_of_beq_eq_true h3]; exact hD j hj e he
    · exact ih e hlt' (hD j hj e he) i (any_beq.1 h3)
theorem cW (hA : tU ops A = true) {D : Nat → Bool} (hD : ∀ j, D j = true → ∀ e ∈ deps ops j, D e = true) (hb : ∀ j, D j = true → j < ops.size)
    {i j : Nat} (hi : i < ops.size) (hj : j < ops.size) (hl : linked A i j = true) (hDi : D i = false) (hdi : ∀ e ∈ deps ops i, D e = true) :
    D j = decide (j < i) := by
  have lt_of : ∀ x y, y < ops.size → x ∈ anc A y → x < y := fun x y hy hx => by
    have h := List.all_eq_true.1 hA y (List.mem_range.2 hy)
    rw [Bool.and_eq_true] at h
    have h2 := List.all_eq_true.1 h.2 x hx
    rw [Bool.and_eq_true] at h2
    exact gB h2.1
  unfold linked at hl
  rw [Bool.or_eq_true, any_beq, any_beq] at hl
  rcases hl with hl | hl
  · have hlt := lt_of j i hi hl
    have h := List.all_eq_true.1 hA i (List.mem_range.2 hi)
    rw [Bool.and_eq_true] at h
    have h2 := List.all_eq_true.1 h.2 j hl
    rw [Bool.and_eq_true, List.any_eq_true] at h2
    obtain ⟨_, e, he, h3⟩ := h2
    rw [Bool.or_eq_true] at h3
    have : D j = true := by
      rcases h3 with h3 | h3
      · rw [Nat.eq_of_beq_eq_true h3]; exact hdi e he
      · exact mL hA hD hb e (hdi e he) j (any_beq.1 h3)
    rw [this]; simp [hlt]
  · have hlt := lt_of i j hj hl
    have : D j = false := by
      cases h : D j with
      | false => rfl
      | true => rw [mL hA hD hb j h i hl] at hDi; cases hDi
    rw [this]; simp; omega
/-- A region that draws its order: what it does in the text's order it does in every order. -/
theorem qDH {C : Ctx} {P : Program} {id : Nat} {S0 : St} {ρ : Ren} {a : Act} {w : World} {Q : Exit → Act → World → Prop}
    (hm : P.follows .mixedOrders = true) (hds : ∀ (i : Nat) (o : Oper) (d : Tmp), ops[i]? = some o → o.dst = some d → d < C.n) (hA : tU ops A = true) (hT : gH ops A = true) (hH : vH ops steps A = true)
    (hdo : ∀ i, i < ops.size → Does C P ops i (stD ops steps (fun _ => true) S0 i) (steps.getD i default))
    (hr : Rel C ρ S0 a w) (hq : ∀ ρ' a' w', Rel C ρ' (stD ops steps (fun _ => true) S0 ops.size) a' w' → Q .normal a' w') :
    (Code.region id ops true).wp P Q a w := by
  refine wp_region_any hm ?_
  have key : ∀ (fuel : Nat) (listed : Array Bool) (ρ : Ren) (a : Act) (w : World), listed.size = ops.size → listed.toList.count false = fuel →
      (∀ j, listed.getD j false = true → ∀ e ∈ deps ops j, listed.getD e false = true) →
      Rel C ρ (stD ops steps (fun j => listed.getD j false) S0 ops.size) a w → wpAny P .any ops Q fuel listed a w := by
    intro fuel
    induction fuel with
    | zero =>
      intro listed ρ a w hs hc hcl hr
      have hall : ∀ j, j < ops.size → listed.getD j false = true := by
        intro j hj
        have : false ∉ listed.toList := List.count_eq_zero.1 hc
        have hj' : j < listed.size := by omega
        cases h : listed[j] with
        | true => simp [Array.getD, hj', h]
        | false => exact absurd (by rw [← h]; simp) this
      refine ⟨?_, ?_⟩
      · unfold Region.ready
        rw [List.filter_eq_nil_iff]
        intro j hj
        have hj2 := List.mem_range.1 hj
        rw [c6 (by omega), hall j hj2]
        simp
      · refine hq ρ a w ?_
        have : stD ops steps (fun j => listed.getD j false) S0 ops.size = stD ops steps (fun _ => true) S0 ops.size := by
          have gen : ∀ n, n ≤ ops.size → stD ops steps (fun j => listed.getD j false) S0 n = stD ops steps (fun _ => true) S0 n := by
            intro n
            induction n with
            | zero => intro _; rfl
            | succ n ih => intro hn; simp only [stD]; rw [ih (by omega), hall n (by omega)]
          exact gen _ (Nat.le_refl _)
        rw [← this]; exact hr
    | succ fuel ih =>
      intro listed ρ a w hs hc hcl hr
      have hb : ∀ j, listed.getD j false = true → j < ops.size := by
        intro j hj
        rcases Nat.lt_or_ge j listed.size with h | h
        · omega
        · simp [Array.getD, Nat.not_lt.2 h] at hj
      have depsOf : ∀ i o, ops[i]? = some o → deps ops i = (o.after.toList.filter (fun e => Region.binds .any e)).map (·.on) := fun i o h => by simp [deps, h]
      refine ⟨?_, ?_⟩
      · intro hn
        exfalso
        have hmem : false ∈ listed.toList := List.count_pos_iff.1 (by omega)
        obtain ⟨j0, hj0, hv0⟩ := List.getElem_of_mem hmem
        have hex : ∃ j, j < ops.size ∧ listed.getD j false = false := ⟨j0, by simpa [hs] using hj0, by
          have hj' : j0 < listed.size := by simpa using hj0
          simp only [Array.getD, hj', dite_true]; simpa using hv0⟩
        have least : ∀ n, ∀ j, j < n → j < ops.size → listed.getD j false = false → False := by
          intro n
          induction n with
          | zero => intro j h; omega
          | succ n ihn =>
            intro j hjn hj hjf
            have hprev : ∀ e, e < j → listed.getD e false = true := fun e he => by
              cases h : listed.getD e false with
              | true => rfl
              | false => exact (ihn e (by omega) (by omega) h).elim
            have hin : j ∈ Region.ready .any ops listed := by
              unfold Region.ready
              rw [List.mem_filter]
              refine ⟨List.mem_range.2 hj, ?_⟩
              have ho : ops[j]? = some ops[j] := Array.getElem?_eq_getElem hj
              rw [c6 (by omega), hjf, ho]
              simp only [Bool.not_false, Bool.true_and, Option.map_some, Option.getD_some]
              rw [← Array.all_toList, List.all_eq_true]
              intro e he
              cases hbd : Region.binds .any e with
              | false => rfl
              | true =>
                have hd : e.on ∈ deps ops j := by rw [depsOf j _ ho]; exact List.mem_map.2 ⟨e, List.mem_filter.2 ⟨he, hbd⟩, rfl⟩
                have hlt := (Bool.and_eq_true _ _ ▸ List.all_eq_true.1 hA j (List.mem_range.2 hj)).1
                have := List.all_eq_true.1 hlt e.on hd
                rw [hprev e.on (gB this)]; rfl
            rw [hn] at hin; cases hin
        obtain ⟨j, hj, hjf⟩ := hex
        exact least (j + 1) j (Nat.lt_succ_self j) hj hjf
      · intro i hi
        unfold Region.ready at hi
        rw [List.mem_filter] at hi
        obtain ⟨hir, hic⟩ := hi
        have hin := List.mem_range.1 hir
        have hi' : i < listed.size := by omega
        have ho : ops[i]? = some ops[i] := Array.getElem?_eq_getElem hin
        rw [Bool.and_eq_true] at hic
        obtain ⟨hif, hia⟩ := hic
        have hDi : listed.getD i false = false := by
          rw [c6 hi'] at hif; simpa using hif
        have hdi : ∀ e ∈ deps ops i, listed.getD e false = true := by
          intro e he
          rw [depsOf i _ ho] at he
          obtain ⟨ed, hed, rfl⟩ := List.mem_map.1 he
          obtain ⟨hed1, hed2⟩ := List.mem_filter.1 hed
          rw [ho] at hia
          simp only [Option.map_some, Option.getD_some] at hia
          rw [← Array.all_toList, List.all_eq_true] at hia
          have := hia ed hed1
          rw [hed2] at this
          simpa using this
        have hdoi := hdo i hin _ ho (fun d => hds i _ d ho)
        -- the state at hand is like the text's where i looks
        have agT : ∀ t, t ∈ looks ops i → ∀ j, j < ops.size → gE ops j = some t → j ≠ i → listed.getD j false = decide (j < i) := by
          intro t ht j hj hdj hne
          have h1 := List.all_eq_true.1 (List.all_eq_true.1 hT i (List.mem_range.2 hin)) j (List.mem_range.2 hj)
          rw [Bool.or_eq_true, Bool.or_eq_true, hdj] at h1
          rcases h1 with (h1 | h1) | h1
          · exact absurd (Nat.eq_of_beq_eq_true h1).symm hne
          · simp only [Bool.not_eq_true'] at h1
            rw [any_beq.2 ht] at h1; cases h1
          · exact cW hA hcl hb hin hj h1 hDi hdi
        have agH : ∀ k, k ∈ (steps.getD i default).reads ++ gF (steps.getD i default) → ∀ j, j < ops.size → k ∈ (xS steps j).writes.map (·.1) → j ≠ i →
            listed.getD j false = decide (j < i) := by
          intro k hk j hj hdj hne
          have h1 := List.all_eq_true.1 (List.all_eq_true.1 hH i (List.mem_range.2 hin)) j (List.mem_range.2 hj)
          rw [Bool.or_eq_true, Bool.or_eq_true] at h1
          rcases h1 with (h1 | h1) | h1
          · exact absurd (Nat.eq_of_beq_eq_true h1).symm hne
          · have h2 := List.all_eq_true.1 h1 k hdj
            simp only [Bool.not_eq_true'] at h2
            rw [any_beq.2 hk] at h2; cases h2
          · exact cW hA hcl hb hin hj h1 hDi hdi
        have looksEq : looks ops i = ops[i].looksAt ops ++ ops[i].dst.toList := by simp [looks, ho]
        have dstEq : gE ops i = ops[i].dst := by simp [gE, ho]
        refine hdoi (stD ops steps (fun j => listed.getD j false) S0 ops.size) ρ a w _ Q ?_ ?_ hr ?_
        · intro t ht
          rw [← stD_lt ops steps (n := ops.size) (Nat.le_of_lt hin)]
          refine bV ops steps (fun j hj hdj => ?_)
          by_cases e : j = i
          · subst e; rw [hDi]; simp
          · exact agT t (by rw [looksEq]; exact List.mem_append_left _ ht) j hj hdj e
        · intro k hk
          rw [← stD_lt ops steps (n := ops.size) (Nat.le_of_lt hin)]
          refine bW ops steps (fun j hj hdj => ?_)
          by_cases e : j = i
          · subst e; rw [hDi]; simp
          · exact agH k (List.mem_append_left _ hk) j hj hdj e
        · intro ρ' a' w' hr'
          have hset : ∀ j, (listed.setIfInBounds i true).getD j false = if j = i then true else listed.getD j false := by
            intro j
            simp only [Array.getD_eq_getD_getElem?, Array.getElem?_setIfInBounds]
            by_cases e : i = j
            · subst e; simp [hi']
            · simp [e, Ne.symm e]
          have hstate : (stD ops steps (fun j => listed.getD j false) S0 ops.size).put ops[i].dst (steps.getD i default).eff =
              stD ops steps (fun j => (listed.setIfInBounds i true).getD j false) S0 ops.size := by
            have eT : ((stD ops steps (fun j => listed.getD j false) S0 ops.size).put ops[i].dst (steps.getD i default).eff).T =
                (stD ops steps (fun j => (listed.setIfInBounds i true).getD j false) S0 ops.size).T := by
              funext t
              by_cases hd : ops[i].dst = some t
              · rw [rB ops steps (i := i) (by rw [hset]; simp) (by rw [dstEq, hd]) hin ?_]
                · simp only [St.put, hd, cN, xS]
                · intro j hij hj hdj
                  rw [hset, if_neg (by omega), agT t (by rw [looksEq, hd]; simp) j hj hdj (by omega)]
                  simp; omega
              · have : ((stD ops steps (fun j => listed.getD j false) S0 ops.size).put ops[i].dst (steps.getD i default).eff).T t =
                    (stD ops steps (fun j => listed.getD j false) S0 ops.size).T t := sP hd
                rw [this]
                refine bV ops steps (fun j hj hdj => ?_)
                rw [hset, if_neg]
                intro e; subst e; rw [dstEq] at hdj; exact hd hdj
            have eH : ((stD ops steps (fun j => listed.getD j false) S0 ops.size).put ops[i].dst (steps.getD i default).eff).H =
                (stD ops steps (fun j => (listed.setIfInBounds i true).getD j false) S0 ops.size).H := by
              funext k
              by_cases hd : k ∈ (xS steps i).writes.map (·.1)
              · obtain ⟨c, hc, _⟩ := gK hd
                rw [rC ops steps (i := i) (by rw [hset]; simp) hc hin ?_]
                · simp only [St.put, wr]; unfold xS at hc; rw [hc]; rfl
                · intro j hij hj hdj
                  rw [hset, if_neg (by omega), agH k (List.mem_append_right _ hd) j hj hdj (by omega)]
                  simp; omega
              · have : ((stD ops steps (fun j => listed.getD j false) S0 ops.size).put ops[i].dst (steps.getD i default).eff).H k =
                    (stD ops steps (fun j => listed.getD j false) S0 ops.size).H k := by
                  simp only [St.put, wr]; unfold xS at hd; rw [yE hd]; rfl
                rw [this]
                refine bW ops steps (fun j hj hdj => ?_)
                rw [hset, if_neg]
                intro e; subst e; exact hd hdj
            cases hx : (stD ops steps (fun j => listed.getD j false) S0 ops.size).put ops[i].dst (steps.getD i default).eff
            cases hy : stD ops steps (fun j => (listed.setIfInBounds i true).getD j false) S0 ops.size
            rw [hx, hy] at eT eH
            simp only at eT eH
            rw [eT, eH]
          rw [hstate] at hr'
          refine ih _ ρ' a' w' (by simp [hs]) ?_ ?_ hr'
          · have hlv : listed.toList[i]'(by simpa using hi') = false := by
              have := hDi
              simp only [Array.getD, hi', dite_true] at this
              simpa using this
            rw [Array.toList_setIfInBounds, List.count_set (by simpa using hi'), hlv, hc]
            simp
          · intro j hj e he
            rw [hset] at hj ⊢
            by_cases eei : e = i
            · simp [eei]
            · rw [if_neg eei]
              by_cases ej : j = i
              · subst ej; exact hdi e he
              · rw [if_neg ej] at hj; exact hcl j hj e he
  refine key ops.size (Array.replicate ops.size false) ρ a _ (by simp) (by simp) (fun j hj => ?_) ?_
  · exfalso
    simp only [Array.getD_eq_getD_getElem?] at hj
    by_cases h : j < ops.size
    · simp [h] at hj
    · simp [h] at hj
  · have : stD ops steps (fun j => (Array.replicate ops.size false).getD j false) S0 ops.size = S0 := by
      have gen : ∀ n, stD ops steps (fun j => (Array.replicate ops.size false).getD j false) S0 n = S0 := by
        intro n
        induction n with
        | zero => rfl
        | succ n ih =>
          simp only [stD]
          have : (Array.replicate ops.size false).getD n false = false := by
            simp only [Array.getD_eq_getD_getElem?]
            by_cases h : n < ops.size <;> simp [h]
          rw [this]; exact ih
      exact gen _
    rw [this]
    exact hr.drawn _
/-- A region in the text's order: its operations. -/
theorem qDG {C : Ctx} {P : Program} {S0 : St} {ρ : Ren} {a : Act} {w : World} {Q : Exit → Act → World → Prop}
    (hds : ∀ (i : Nat) (o : Oper) (d : Tmp), ops[i]? = some o → o.dst = some d → d < C.n)
    (hdo : ∀ i, i < ops.size → Does C P ops i (stD ops steps (fun _ => true) S0 i) (steps.getD i default))
    (hr : Rel C ρ S0 a w) (hq : ∀ ρ' a' w', Rel C ρ' (stD ops steps (fun _ => true) S0 ops.size) a' w' → Q .normal a' w') :
    wpOps P ops Q (List.range ops.size) a w := by
  have key : ∀ (m i : Nat) (ρ : Ren) (a : Act) (w : World), i + m = ops.size → Rel C ρ (stD ops steps (fun _ => true) S0 i) a w → wpOps P ops Q (List.range' i m) a w := by
    intro m
    induction m with
    | zero => intro i ρ a w h hr; simp only [List.range'_zero, wpOps]; have : i = ops.size := by omega
              subst this; exact hq ρ a w hr
    | succ m ih =>
      intro i ρ a w h hr
      have hin : i < ops.size := by omega
      have ho : ops[i]? = some ops[i] := Array.getElem?_eq_getElem hin
      rw [List.range'_succ, wpOps_cons]
      refine hdo i hin _ ho (fun d => hds i _ d ho) _ ρ a w _ Q (fun _ _ => rfl) (fun _ _ => rfl) hr (fun ρ' a' w' hr' => ?_)
      refine ih (i + 1) ρ' a' w' (by omega) ?_
      simp only [stD, cond_true]
      have dstEq : gE ops i = ops[i].dst := by simp [gE, ho]
      rw [dstEq]; exact hr'
  have := key ops.size 0 ρ a w (by omega) hr
  rwa [List.range_eq_range']
/-- A region in the text's order. -/
theorem sN {C : Ctx} {P : Program} {id : Nat} {S0 : St} {ρ : Ren} {a : Act} {w : World} {Q : Exit → Act → World → Prop}
    (hds : ∀ (i : Nat) (o : Oper) (d : Tmp), ops[i]? = some o → o.dst = some d → d < C.n)
    (hdo : ∀ i, i < ops.size → Does C P ops i (stD ops steps (fun _ => true) S0 i) (steps.getD i default))
    (hr : Rel C ρ S0 a w) (hq : ∀ ρ' a' w', Rel C ρ' (stD ops steps (fun _ => true) S0 ops.size) a' w' → Q .normal a' w') :
    (Code.region id ops false).wp P Q a w := wp_region (qDG hds hdo hr hq)
end
section
variable (C : Ctx) (P : Program) (ops : Array Oper)
inductive Runs : Nat → St → List Step → St → Prop
  | nil (i : Nat) (S : St) : Runs i S [] S
  | cons {i : Nat} {S : St} {s : Step} {d : Option Tmp} {l : List Step} {S' : St} (hd : gE ops i = d) (h : Does C P ops i S s) (r : Runs (i + 1) (S.put d s.eff) l S') : Runs i S (s :: l) S'
theorem rE {steps : List Step} {S0 : St} : ∀ {i : Nat} {S : St} {l : List Step} {S' : St}, Runs C P ops i S l S' → S = stD ops steps (fun _ => true) S0 i →
    (∀ j, l[j]? = steps[i + j]?) → (∀ j, j < l.length → Does C P ops (i + j) (stD ops steps (fun _ => true) S0 (i + j)) (steps.getD (i + j) default)) ∧
      S' = stD ops steps (fun _ => true) S0 (i + l.length) := by
  intro i S l S' h
  induction h with
  | nil i S => intro e _; exact ⟨fun j hj => by simp at hj, e⟩
  | @cons i S s d l S' hd h r ih =>
    intro e hl
    have h0 : steps[i]? = some s := by have := hl 0; simpa using this.symm
    have hs : steps.getD i default = s := by simp [List.getD, h0]
    have he : xS steps i = s.eff := by unfold xS; rw [hs]
    have := ih (by simp only [stD, cond_true, ← e, hd, he]) (fun j => by have := hl (j + 1); simpa [Nat.add_assoc, Nat.add_comm 1 j] using this)
    refine ⟨fun j hj => ?_, by rw [this.2]; simp [Nat.add_assoc, Nat.add_comm 1]⟩
    cases j with
    | zero => simp only [Nat.add_zero]; rw [← e, hs]; exact h
    | succ j =>
      have := this.1 j (by simpa using hj)
      have e2 : i + (j + 1) = i + 1 + j := by omega
      rw [e2]; exact this
end
section
variable {C : Ctx} {P : Program} {ops : Array Oper} {steps : List Step} {A : List (List Nat)} {S0 S1 : St} {ρ : Ren} {a : Act} {w : World} {Q : Exit → Act → World → Prop} {id : Nat}
def dstB (ops : Array Oper) (n : Nat) : Bool := ops.toList.all fun o => match o.dst with
  | some d => Nat.blt d n
  | none => true
theorem dst_lt {ops : Array Oper} {n : Nat} (h : dstB ops n = true) (i : Nat) (o : Oper) (d : Tmp) (ho : ops[i]? = some o) (hd : o.dst = some d) : d < n := by
  have := List.all_eq_true.1 h o (by rw [Array.mem_toList_iff]; exact Array.mem_of_getElem? ho)
  rw [hd] at this
  exact gB this
theorem rJ (hm : P.follows .mixedOrders = true) (hd : dstB ops C.n = true) (hr : Runs C P ops 0 S0 steps S1) (hn : steps.length = ops.size)
    (hA : (tU ops A && gH ops A && vH ops steps A) = true) (h : Rel C ρ S0 a w)
    (hq : ∀ ρ' a' w', Rel C ρ' S1 a' w' → Q .normal a' w') : (Code.region id ops true).wp P Q a w := by
  obtain ⟨h1, h2⟩ := rE C P ops (steps := steps) (S0 := S0) hr rfl (fun j => by simp)
  rw [Bool.and_eq_true, Bool.and_eq_true] at hA
  refine qDH hm (dst_lt hd) hA.1.1 hA.1.2 hA.2 (fun i hi => ?_) h ?_
  · have := h1 i (by omega); simpa using this
  · rw [Nat.zero_add, hn] at h2; rw [← h2]; exact hq
theorem rH (hd : dstB ops C.n = true) (hr : Runs C P ops 0 S0 steps S1) (hn : steps.length = ops.size) (h : Rel C ρ S0 a w)
    (hq : ∀ ρ' a' w', Rel C ρ' S1 a' w' → Q .normal a' w') : (Code.region id ops false).wp P Q a w := by
  obtain ⟨h1, h2⟩ := rE C P ops (steps := steps) (S0 := S0) hr rfl (fun j => by simp)
  refine sN (steps := steps) (dst_lt hd) (fun i hi => ?_) h ?_
  · have := h1 i (by omega); simpa using this
  · rw [Nat.zero_add, hn] at h2; rw [← h2]; exact hq
end
section
variable {P : Program} {w : World} {t : TypeId}
theorem e8 {i : TypeInfo} (h : P.info? t = some i) : (typeInfo t).run P w = .ok i w := by simp [typeInfo, h]
theorem gQ {i : TypeInfo} (h : P.info? t = some i) : (sizeOf t).run P w = .ok i.size w := by simp [sizeOf, e8 h]
theorem mS {i : TypeInfo} {v : Value} (h : P.info? t = some i) (hz : i.zero = some v) : (zeroValue t).run P w = .ok v w := by simp [zeroValue, e8 h, hz]
def aggB (P : Program) (t : TypeId) : Option Bool := match P.underlying t with
  | some (.struct _) => some true
  | some (.array _ _) => some true
  | some _ => some false
  | none => none
theorem mT {b : Bool} (h : aggB P t = some b) : (isAgg t).run P w = .ok b w := by
  unfold aggB at h
  unfold isAgg
  split at h
  · rename_i hu; cases h; simp [run_underlying hu]
  · rename_i hu; cases h; simp [run_underlying hu]
  · rename_i d h1 h2 hu; cases h
    simp only [Sem.run_bind, run_underlying hu, Result.andThen_ok]
    cases d <;> first | rfl | (rename_i f; exact (h1 _ rfl).elim) | (exact (h2 _ _ rfl).elim)
  · cases h
end
theorem add_at (b o j : Nat) : (⟨b, o, none⟩ : Addr).add j = ⟨b, o + j, none⟩ := by
  unfold Addr.add; split <;> simp_all
theorem VRel.of_only {ρ : Ren} {v : Value} (h : Only (fun _ => False) v) : VRel ρ v v := by
  induction h with
  | bool b => exact .bool b
  | int k n => exact .int k n
  | string s => exact .string s
  | ptr k off h => exact h.elim
  | nilPtr => exact .nilPtr
  | nilFunc => exact .nilFunc
  | nilIface => exact .nilIface
  | nilSlice => exact .nilSlice
  | slice k off len c h => exact h.elim
  | func fn xs cs _ _ ih ih' => exact .func fn xs xs cs cs rfl ih rfl ih'
  | agg xs _ ih => exact .agg xs xs rfl ih
  | tuple xs _ ih => exact .tuple xs xs rfl ih
theorem VRel.eq_of_only {ρ : Ren} {v v' : Value} (r : VRel ρ v v') (h : Only (fun _ => False) v) : v' = v := by
  induction r with
  | bool b => rfl
  | int k n => rfl
  | string s => rfl
  | ptr k off sp hk => cases h with | ptr _ _ h => exact h.elim
  | nilPtr => rfl
  | nilFunc => rfl
  | nilIface => rfl
  | nilSlice => rfl
  | slice k off len c cap sp hk hc hs => cases h with | slice _ _ _ _ h => exact h.elim
  | slice0 k off c A => cases h with | slice _ _ _ _ h => exact h.elim
  | func fn xs ys cs ds e _ e' _ ih ih' =>
    cases h with
    | func _ _ _ a b =>
      congr 1
      · exact (Array.ext e.symm (fun i h1 h2 => ih i h2 (a i h2)))
      · exact (Array.ext e'.symm (fun i h1 h2 => ih' i h2 (b i h2)))
  | agg xs ys e _ ih => cases h with | agg _ a => exact congrArg Value.agg (Array.ext e.symm (fun i h1 h2 => ih i h2 (a i h2)))
  | tuple xs ys e _ ih => cases h with | tuple _ a => exact congrArg Value.tuple (Array.ext e.symm (fun i h1 h2 => ih i h2 (a i h2)))
def c9 : Value → Bool
  | .bool _ | .int _ _ | .string _ | .pointer none | .nilFunc | .nilIface => true
  | .slice none n c => Nat.beq n 0 && Nat.beq c 0
  | .func _ xs ys => Nat.beq xs.size 0 && Nat.beq ys.size 0
  | _ => false
def flatB : Value → Bool
  | .agg xs => xs.toList.all c9
  | .tuple xs => xs.toList.all fun v => c9 v || match v with
    | .agg ys => ys.toList.all c9
    | _ => false
  | v => c9 v
theorem gJ {p : Nat → Prop} {v : Value} (h : c9 v = true) : Only p v := by
  unfold c9 at h
  split at h
  · exact .bool _
  · exact .int _ _
  · exact .string _
  · exact .nilPtr
  · exact .nilFunc
  · exact .nilIface
  · rw [Bool.and_eq_true] at h
    rw [Nat.eq_of_beq_eq_true h.1, Nat.eq_of_beq_eq_true h.2]; exact .nilSlice
  · rw [Bool.and_eq_true] at h
    have h1 := Nat.eq_of_beq_eq_true h.1
    have h2 := Nat.eq_of_beq_eq_true h.2
    exact .func _ _ _ (fun i hi => by omega) (fun i hi => by omega)
  · cases h
theorem vD {p : Nat → Prop} {xs : Array Value} (h : ∀ v ∈ xs.toList, Only p v) : ∀ i (hi : i < xs.size), Only p xs[i] :=
  fun i hi => h _ (by simp)
theorem qT {p : Nat → Prop} {v : Value} (h : flatB v = true) : Only p v := by
  unfold flatB at h
  split at h
  · exact .agg _ (vD fun v hv => gJ (List.all_eq_true.1 h v hv))
  · refine .tuple _ (vD fun v hv => ?_)
    have := List.all_eq_true.1 h v hv
    rw [Bool.or_eq_true] at this
    rcases this with h1 | h1
    · exact gJ h1
    · split at h1
      · exact .agg _ (vD fun u hu => gJ (List.all_eq_true.1 h1 u hu))
      · cases h1
  · exact gJ h
def ev (S : St) : Operand → Option Value
  | .tmp t => S.T t
  | .const v => bif flatB v then some v else none
  | .func f => some (.func (.func f) #[] #[])
  | .global _ => none
theorem jM {C : Ctx} {ρ : Ren} {S : St} {a : Act} {w : World} (h : Rel C ρ S a w) {x : Operand} {v : Value} (hx : ev S x = some v) : VRel ρ v (a.eval x) := by
  cases x with
  | tmp t =>
    obtain ⟨v', h1, h2⟩ := h.temps t v hx
    simp only [Act.eval, Array.getD_eq_getD_getElem?, h1, Option.getD_some]; exact h2
  | const u =>
    simp only [ev] at hx
    cases hf : flatB u with
    | false => rw [hf] at hx; cases hx
    | true => rw [hf] at hx; cases hx; exact .of_only (qT hf)
  | func f => cases hx; exact .of_only (.func _ _ _ (fun i hi => by simp at hi) (fun i hi => by simp at hi))
  | global g => cases hx
/-- The state's own eyes. -/
def eyes (S : St) (x : Operand) : Value := (ev S x).getD undef
def flatOps (S : St) (o : Oper) : Bool := o.op.operands.toList.all fun x => match ev S x with
  | some v => flatB v
  | none => false
def noSelB (o : Oper) : Bool := match o.op with | .select _ _ => false | _ => true
/-- The guard, as the state sees it. -/
def guardOf (ops : Array Oper) (S : St) (o : Oper) : Option Bool := match o.guard with
  | none => some true
  | some (g, want) => match gE ops g with
    | some t => match S.T t with
      | some (.bool b) => some (b == want)
      | some (.tuple vs) => bif Nat.beq vs.size 0 then some false else none
      | _ => none
    | none => none
theorem vW {C : Ctx} {ρ : Ren} {S : St} {a : Act} {w : World} {ops : Array Oper} {o : Oper} {b : Bool} (h : Rel C ρ S a w) (hg : guardOf ops S o = some b) :
    Region.wanted o (yielded ops a.tmps) = b := by
  unfold guardOf at hg
  unfold Region.wanted
  split at hg
  · rename_i e; rw [e]; cases hg; rfl
  · rename_i g want e
    rw [e]
    split at hg
    · rename_i t ht
      have ht' : (ops[g]?).bind (·.dst) = some t := ht
      split at hg
      · rename_i c hc
        obtain ⟨v', h1, h2⟩ := h.temps t _ hc
        cases h2
        cases hg
        simp only [yielded, ht', Option.bind_some, h1]
        cases c <;> cases want <;> rfl
      · rename_i vs hc
        obtain ⟨v', h1, h2⟩ := h.temps t _ hc
        cases h2
        cases hz : Nat.beq vs.size 0 with
        | false => rw [hz] at hg; cases hg
        | true =>
          rw [hz] at hg
          cases hg
          simp only [yielded, ht', Option.bind_some, h1]
          cases want <;> rfl
      · cases hg
    · cases hg
/-- The look at a state that is alike. -/
theorem x8 {S S' : St} {ops : Array Oper} {o : Oper} (h : ∀ t, t ∈ o.looksAt ops → S'.T t = S.T t) {x : Operand} (hx : x ∈ o.op.operands.toList) : ev S' x = ev S x := by
  cases x with
  | tmp t => exact h t (List.mem_append_left _ (List.mem_filterMap.2 ⟨.tmp t, hx, rfl⟩))
  | _ => rfl
theorem yD {S S' : St} {ops : Array Oper} {o : Oper} (h : ∀ t, t ∈ o.looksAt ops → S'.T t = S.T t) : guardOf ops S' o = guardOf ops S o := by
  unfold guardOf
  split
  · rfl
  · rename_i g want e
    have e' : o.guard = some (g, want) := e
    cases hd : gE ops g with
    | none => rfl
    | some t =>
      have : S'.T t = S.T t := h t (by
        unfold Oper.looksAt
        refine List.mem_append_right _ ?_
        rw [e']
        have hd' : (ops[g]?).bind (·.dst) = some t := hd
        simp [hd'])
      simp only [this]
/-- An operation that leaves a value: the state of the machine behind it. -/
theorem Rel.put {C : Ctx} {ρ : Ren} {S : St} {a : Act} {w : World} (h : Rel C ρ S a w) {d : Option Tmp} (hd : ∀ x, d = some x → x < C.n) {v v' : Value} (r : VRel ρ v v') : Rel C ρ ⟨putT S.T d v, S.H⟩ (a.put d v') w := by
  cases d with
  | none => exact h
  | some d =>
    refine ⟨by simp [Act.put, h.size], h.defers, fun t u hu => ?_, h.heap, h.frame, h.owned, h.pin⟩
    have hu' : upd S.T d (some v) t = some u := hu
    by_cases e : t = d
    · subst e
      rw [jE] at hu'
      cases hu'
      have hs : t < a.tmps.size := by rw [h.size]; exact hd t rfl
      exact ⟨v', by simp [Act.put, hs], r⟩
    · rw [j3 _ _ e] at hu'
      obtain ⟨x, h1, h2⟩ := h.temps t u hu'
      exact ⟨x, by simp [Act.put, Array.getElem?_setIfInBounds_ne (Ne.symm e), h1], h2⟩
def qZ (ops : Array Oper) (S : St) (i : Nat) : Option (Op × Bool) := (ops[i]?).bind fun o => (guardOf ops S o).map fun b => (o.op, b)
theorem y6 {ops : Array Oper} {S : St} {i : Nat} {op : Op} {b : Bool} (h : qZ ops S i = some (op, b)) {o : Oper} (ho : ops[i]? = some o) :
    o.op = op ∧ guardOf ops S o = some b := by
  unfold qZ at h
  rw [ho] at h
  simp only [Option.bind_some, Option.map_eq_some_iff, Prod.mk.injEq] at h
  obtain ⟨c, h1, h2, rfl⟩ := h
  exact ⟨h2, h1⟩
section
variable {C : Ctx} {P : Program} {ops : Array Oper} {i : Nat} {S : St}
/-- The one door: how an operation that runs is told. -/
theorem Does.of_run {s : Step} {op : Op} (hs : qZ ops S i = some (op, true))
    (run : ∀ (o : Oper), o.op = op → ∀ (S' : St) (ρ : Ren) (a : Act) (w : World), (∀ x, x ∈ op.operands.toList → ev S' x = ev S x) → (∀ k, k ∈ s.reads → S'.H k = S.H k) → Rel C ρ S' a w →
      ∃ n w' ρ' v', (execOp a.eval o).run P w = .ok n w' ∧ (n = .value v' ∨ (n = .skip ∧ v' = undef)) ∧ VRel ρ' s.eff.val v' ∧ Rel C ρ' ⟨S'.T, wr s.eff.writes S'.H⟩ a w') :
    Does C P ops i S s := by
  intro o ho hd S' ρ a w K Q hT hH hr hK
  obtain ⟨hop, hg⟩ := y6 hs ho
  have hg' : guardOf ops S' o = some true := by rw [yD hT]; exact hg
  have hw := vW hr hg'
  obtain ⟨n, w', ρ', v', h1, h2, h3, h4⟩ := run o hop S' ρ a w (fun x hx => x8 hT (by rw [hop]; exact hx)) hH hr
  unfold wpOp
  simp only [ho, hw, if_true]
  refine .inl ?_
  unfold Oper.wp
  rw [h1]
  have hput := Rel.put h4 hd h3
  rcases h2 with rfl | ⟨rfl, rfl⟩
  · exact hK ρ' _ _ hput
  · exact hK ρ' _ _ hput
/-- A guarded operation that is passed by. -/
theorem does_skip {op : Op} (hs : qZ ops S i = some (op, false)) : Does C P ops i S ⟨[], undef, []⟩ := by
  intro o ho hd S' ρ a w K Q hT hH hr hK
  obtain ⟨hop, hg⟩ := y6 hs ho
  have hg' : guardOf ops S' o = some false := by rw [yD hT]; exact hg
  have hw := vW hr hg'
  unfold wpOp
  simp only [ho, hw, Bool.false_eq_true, if_false]
  refine hK ρ _ _ ?_
  have : Rel C ρ ⟨putT S'.T o.dst undef, S'.H⟩ (a.put o.dst undef) w := Rel.put hr hd (VRel.of_only (qT rfl))
  exact this
theorem eX (H : Nat → Cell) (k : Nat) (c : Cell) : wr [(k, c)] H = upd H k c := by
  funext n
  simp only [wr, findW, upd]
  cases Nat.beq n k <;> rfl
/-- It only computes. -/
def execAt (ops : Array Oper) (i : Nat) (f : Operand → Value) : Sem Next := match ops[i]? with
  | some o => execOp f o
  | none => stuck ""
def pureB (ops : Array Oper) (S : St) (i : Nat) : Bool := match ops[i]? with
  | some o => flatOps S o && noSelB o && (match guardOf ops S o with | some b => b | none => false)
  | none => false
theorem lC {v : Value} (hp : pureB ops S i = true) (hrun : ∀ w, (execAt ops i (eyes S)).run P w = .ok (.value v) w) (hv : flatB v = true) : Does C P ops i S ⟨[], v, []⟩ := by
  intro o ho hd S' ρ a w K Q hT hH hr hK
  unfold pureB at hp
  rw [ho] at hp
  simp only [Bool.and_eq_true] at hp
  obtain ⟨⟨hf, hn⟩, hg⟩ := hp
  have hg1 : guardOf ops S o = some true := by
    split at hg
    · rename_i b e; rw [e, hg]
    · cases hg
  have hg' : guardOf ops S' o = some true := by rw [yD hT]; exact hg1
  have hw := vW hr hg'
  have hex : execOp a.eval o = execOp (eyes S) o := by
    refine execOp_congr o (fun cs b e => by unfold noSelB at hn; rw [e] at hn; cases hn) (fun x hx => ?_)
    have hx' : x ∈ o.op.operands.toList := by simpa using hx
    have := List.all_eq_true.1 hf x hx'
    cases hev : ev S x with
    | none => rw [hev] at this; cases this
    | some u =>
      rw [hev] at this
      have hev' : ev S' x = some u := by rw [x8 hT hx']; exact hev
      have := (jM hr hev').eq_of_only (qT this)
      rw [this]; simp [eyes, hev]
  have hrw := hrun w
  unfold execAt at hrw
  rw [ho] at hrw
  unfold wpOp
  simp only [ho, hw, if_true]
  refine .inl ?_
  unfold Oper.wp
  rw [hex, hrw]
  have : Rel C ρ ⟨putT S'.T o.dst v, S'.H⟩ (a.put o.dst v) w := Rel.put hr hd (VRel.of_only (qT hv))
  exact hK ρ _ _ this
theorem does_move {x : Operand} {v : Value} (hs : qZ ops S i = some (.move x, true)) (hx : ev S x = some v) : Does C P ops i S ⟨[], v, []⟩ :=
  .of_run hs fun o ho S' ρ a w hT _ hr => ⟨_, w, ρ, a.eval x, by simp [execOp, ho], .inl rfl, jM hr (by rw [hT x (by simp [Op.operands])]; exact hx), hr⟩
theorem eG {x : Operand} {v : Value} (hs : qZ ops S i = some (.assign x, true)) (hx : ev S x = some v) : Does C P ops i S ⟨[], v, []⟩ :=
  .of_run hs fun o ho S' ρ a w hT _ hr => ⟨_, w, ρ, a.eval x, by simp [execOp, ho], .inl rfl, jM hr (by rw [hT x (by simp [Op.operands])]; exact hx), hr⟩
theorem does_pick {c x y : Operand} {b : Bool} {v : Value} (hs : qZ ops S i = some (.pick c x y, true)) (hc : ev S c = some (.bool b)) (hx : ev S (bif b then x else y) = some v) :
    Does C P ops i S ⟨[], v, []⟩ :=
  .of_run hs fun o ho S' ρ a w hT _ hr => by
    have h1 := jM hr (by rw [hT c (by simp [Op.operands])]; exact hc)
    generalize hac : a.eval c = ac at h1
    cases h1
    refine ⟨_, w, ρ, a.eval (bif b then x else y), ?_, .inl rfl, jM hr (by rw [hT _ (by cases b <;> simp [Op.operands])]; exact hx), hr⟩
    cases b <;> simp [execOp, ho, hac, asBool]
theorem n8 {x : Operand} {A : Addr} (hs : qZ ops S i = some (.nilCheck x, true)) (hx : ev S x = some (.pointer (some A))) : Does C P ops i S ⟨[], .pointer (some A), []⟩ :=
  .of_run hs fun o ho S' ρ a w hT _ hr => by
    have h1 := jM hr (by rw [hT x (by simp [Op.operands])]; exact hx)
    generalize hax : a.eval x = ax at h1
    refine ⟨_, w, ρ, ax, ?_, .inl rfl, h1, hr⟩
    cases h1
    simp [execOp, ho, hax]
theorem lE {x : Operand} {n : Nat} {vs : Array Value} {v : Value} (hs : qZ ops S i = some (.extract x n, true)) (hx : ev S x = some (.tuple vs)) (hv : vs[n]? = some v) :
    Does C P ops i S ⟨[], v, []⟩ :=
  .of_run hs fun o ho S' ρ a w hT _ hr => by
    have h1 := jM hr (by rw [hT x (by simp [Op.operands])]; exact hx)
    generalize hax : a.eval x = ax at h1
    cases h1 with
    | tuple _ ys e hp =>
      obtain ⟨hn, he⟩ := Array.getElem?_eq_some_iff.1 hv
      have hn' : n < ys.size := by omega
      refine ⟨_, w, ρ, ys[n], ?_, .inl rfl, by rw [← he]; exact hp n hn, hr⟩
      simp [execOp, ho, hax, Instr.extract, Array.getElem?_eq_getElem hn']
def nR (P : Program) (s : TypeId) (f : Nat) : Option Nat := match P.underlying s with
  | some (.struct fields) => match fields[f]? with
    | some fd => match P.info? fd.type with
      | some i => bif Nat.beq i.size 0 then none else some fd.offset
      | none => none
    | none => none
  | _ => none
theorem uZ {s : TypeId} {x : Operand} {f k off d : Nat} (hs : qZ ops S i = some (.fieldAddr s x f, true)) (hx : ev S x = some (.pointer (some ⟨k, off, none⟩)))
    (hf : nR P s f = some d) : Does C P ops i S ⟨[], .pointer (some ⟨k, off + d, none⟩), []⟩ :=
  .of_run hs fun o ho S' ρ a w hT _ hr => by
    have h1 := jM hr (by rw [hT x (by simp [Op.operands])]; exact hx)
    generalize hax : a.eval x = ax at h1
    cases h1 with
    | ptr _ _ sp hk =>
      refine ⟨_, w, ρ, .pointer (some ⟨sp.block, sp.off + (off + d), none⟩), ?_, .inl rfl, .ptr k (off + d) sp hk, hr⟩
      unfold nR at hf
      split at hf
      · rename_i fields hu
        split at hf
        · rename_i fd hfd
          split at hf
          · rename_i inf hi
            cases hz : Nat.beq inf.size 0 with
            | true => rw [hz] at hf; cases hf
            | false =>
              rw [hz] at hf; cases hf
              have hz' : ¬ inf.size = 0 := fun e => by rw [e] at hz; cases hz
              simp only [execOp, ho, hax, Instr.fieldAt, Sem.run_bind, run_underlying hu, Result.andThen_ok, hfd, Instr.sureAddr, Sem.run_pure, fieldPlace, gQ hi, Sem.run_ite, hz', if_false, add_at, Nat.add_assoc]
          · cases hf
        · cases hf
      · cases hf
def gA (P : Program) (t : TypeId) : Option Nat := match P.underlying t with
  | some (.slice e) => (P.info? e).map (·.size)
  | some (.array _ e) => (P.info? e).map (·.size)
  | _ => none
def qD5 (P : Program) (t : TypeId) : Option Nat := match P.underlying t with
  | some (.array n _) => some n
  | _ => none
def slcB (P : Program) (t : TypeId) : Bool := match P.underlying t with
  | some (.slice _) => true
  | _ => false
theorem tA {t : TypeId} {x y : Operand} {k off n z : Nat} {kd : IntKind} {j : Int} (hs : qZ ops S i = some (.indexAddr t x y, true))
    (hx : ev S x = some (.pointer (some ⟨k, off, none⟩))) (hy : ev S y = some (.int kd j)) (hn : qD5 P t = some n) (hz : gA P t = some z) (h0 : 0 ≤ j) (h1 : j < n) :
    Does C P ops i S ⟨[], .pointer (some ⟨k, off + j.toNat * z, none⟩), []⟩ :=
  .of_run hs fun o ho S' ρ a w hT _ hr => by
    have hrx := jM hr (by rw [hT x (by simp [Op.operands])]; exact hx)
    have hry := jM hr (by rw [hT y (by simp [Op.operands])]; exact hy)
    generalize hax : a.eval x = ax at hrx
    generalize hay : a.eval y = ay at hry
    cases hry
    cases hrx with
    | ptr _ _ sp hk =>
      refine ⟨_, w, ρ, .pointer (some ⟨sp.block, sp.off + (off + j.toNat * z), none⟩), ?_, .inl rfl, .ptr k _ sp hk, hr⟩
      unfold qD5 at hn
      split at hn
      · rename_i m e hu
        cases hn
        unfold gA at hz
        rw [hu] at hz
        simp only [Option.map_eq_some_iff] at hz
        obtain ⟨inf, hi, rfl⟩ := hz
        simp only [execOp, ho, hax, hay, Instr.indexAt, Sem.run_bind, asIntOf, Sem.run_pure, run_underlying hu, Result.andThen_ok, Instr.sureAddr, Sem.run_ite, if_pos (And.intro h0 h1), gQ hi, add_at, Nat.add_assoc]
      · cases hn
theorem q7 {t : TypeId} {x y : Operand} {k off n c z : Nat} {kd : IntKind} {j : Int} (hs : qZ ops S i = some (.indexAddr t x y, true))
    (hx : ev S x = some (.slice (some ⟨k, off, none⟩) n c)) (hy : ev S y = some (.int kd j)) (hsl : slcB P t = true) (hz : gA P t = some z) (h0 : 0 ≤ j) (h1 : j < n) :
    Does C P ops i S ⟨[], .pointer (some ⟨k, off + j.toNat * z, none⟩), []⟩ :=
  .of_run hs fun o ho S' ρ a w hT _ hr => by
    have hrx := jM hr (by rw [hT x (by simp [Op.operands])]; exact hx)
    have hry := jM hr (by rw [hT y (by simp [Op.operands])]; exact hy)
    generalize hax : a.eval x = ax at hrx
    generalize hay : a.eval y = ay at hry
    cases hry
    cases hrx with
    | slice _ _ _ _ cap sp hk hc hss =>
      refine ⟨_, w, ρ, .pointer (some ⟨sp.block, sp.off + (off + j.toNat * z), none⟩), ?_, .inl rfl, .ptr k _ sp hk, hr⟩
      unfold slcB at hsl
      split at hsl
      · rename_i e hu
        unfold gA at hz
        rw [hu] at hz
        simp only [Option.map_eq_some_iff] at hz
        obtain ⟨inf, hi, rfl⟩ := hz
        simp only [execOp, ho, hax, hay, Instr.indexAt, Sem.run_bind, asIntOf, Sem.run_pure, run_underlying hu, Result.andThen_ok, Sem.run_ite, if_pos (And.intro h0 h1), gQ hi, add_at, Nat.add_assoc]
      · cases hsl
    | slice0 => omega
theorem jC.cell {ρ : Ren} {w : World} {sp : Spot} {b : Blk} (h : jC ρ w sp b) {j : Nat} {u : Value} (hj : b.cells[j]? = some u) :
    ∃ v, w.cell? ⟨sp.block, sp.off + j, none⟩ = some v ∧ VRel ρ u v := by
  by_cases o : b.own = true
  · rw [jC.own o] at h
    obtain ⟨_, c, h1, _, _, h4⟩ := h
    obtain ⟨v, h5, h6⟩ := h4 j u hj
    refine ⟨v, ?_, h6⟩
    rw [cell_of_row w sp.block (sp.off + j) c b.elem (0, 0) h1]
    exact h5
  · rw [jC.ro o] at h; exact h.2.2 j u hj
/-- A value of type t at place off of a row. -/
def ldV (P : Program) (t : TypeId) (cells : List Value) (off : Nat) : Option Value := match P.info? t with
  | some i => match aggB P t with
    | some true => bif Nat.ble (off + i.size) cells.length then some (.agg ((cells.drop off).take i.size).toArray) else none
    | some false => cells[off]?
    | none => none
  | none => none
theorem ldV_run {ρ : Ren} {w : World} {sp : Spot} {b : Blk} (h : jC ρ w sp b) {t : TypeId} {off : Nat} {v : Value} (hv : ldV P t b.cells off = some v) :
    ∃ v', (loadVar t ⟨sp.block, sp.off + off, none⟩).run P w = .ok v' w ∧ VRel ρ v v' := by
  unfold ldV at hv
  split at hv
  · rename_i inf hi
    split at hv
    · rename_i ha
      cases hb : Nat.ble (off + inf.size) b.cells.length with
      | false => rw [hb] at hv; cases hv
      | true =>
        rw [hb] at hv
        simp only [cond_true, Option.some.injEq] at hv
        subst hv
        have hle := Nat.le_of_ble_eq_true hb
        have hc : ∀ j, j < inf.size → ∃ x, w.cell? ((⟨sp.block, sp.off + off, none⟩ : Addr).add j) = some x ∧ ∀ u, b.cells[off + j]? = some u → VRel ρ u x := fun j hj => by
          obtain ⟨x, h1, h2⟩ := h.cell (j := off + j) (u := b.cells[off + j]) (List.getElem?_eq_getElem (by omega))
          refine ⟨x, by rw [add_at, Nat.add_assoc]; exact h1, fun u hu => ?_⟩
          rw [List.getElem?_eq_getElem (by omega)] at hu
          cases hu; exact h2
        let f : Nat → Value := fun j => (w.cell? ((⟨sp.block, sp.off + off, none⟩ : Addr).add j)).getD undef
        have hf : ∀ j, j < inf.size → w.cell? ((⟨sp.block, sp.off + off, none⟩ : Addr).add j) = some (f j) := fun j hj => by
          obtain ⟨x, h1, _⟩ := hc j hj
          simp only [f, h1, Option.getD_some]
        refine ⟨.agg ((List.range inf.size).map f).toArray, ?_, ?_⟩
        · simp only [loadVar, Sem.run_bind, mT ha, Result.andThen_ok, Sem.run_ite, if_true, gQ hi, run_loadCells w _ inf.size f hf, Sem.run_pure]
        · refine .agg _ _ (by simp; omega) (fun j hj => ?_)
          have hj' : j < inf.size := by simp at hj; omega
          obtain ⟨x, h1, h2⟩ := hc j hj'
          have hfx : f j = x := by simp only [f, h1, Option.getD_some]
          simp only [List.getElem_toArray, List.getElem_take, List.getElem_drop, List.getElem_map, List.getElem_range, hfx]
          exact h2 _ (List.getElem?_eq_getElem (by omega))
    · rename_i ha
      obtain ⟨x, h1, h2⟩ := h.cell hv
      refine ⟨x, ?_, h2⟩
      simp only [loadVar, Sem.run_bind, mT ha, Result.andThen_ok, Sem.run_ite, Bool.false_eq_true, if_false, run_load, h1]
    · cases hv
  · cases hv
theorem bM {t : TypeId} {x : Operand} {k off : Nat} {b : Blk} {v : Value} (hs : qZ ops S i = some (.load t x, true)) (hx : ev S x = some (.pointer (some ⟨k, off, none⟩)))
    (hH : S.H k = .live b) (hv : ldV P t b.cells off = some v) : Does C P ops i S ⟨[k], v, []⟩ :=
  .of_run hs fun o ho S' ρ a w hT hH' hr => by
    have hrx := jM hr (by rw [hT x (by simp [Op.operands])]; exact hx)
    generalize hax : a.eval x = ax at hrx
    cases hrx with
    | ptr _ _ sp hk =>
      obtain ⟨sp', hk', hb⟩ := hr.heap.live k b (by rw [hH' k (by simp)]; exact hH)
      rw [hk] at hk'; cases hk'
      obtain ⟨v', h1, h2⟩ := ldV_run hb hv
      exact ⟨_, w, ρ, v', by simp only [execOp, ho, hax, Instr.loadAt, Instr.sureAddr, Sem.run_bind, Sem.run_pure, Result.andThen_ok, h1], .inl rfl, h2, hr⟩
theorem Rel.new {ρ : Ren} {a : Act} {w : World} (h : Rel C ρ S a w) {k : Nat} (hk : S.H k = .fresh) {cells : List Value} {c : Array Value} {e : TypeId} {st : Nat}
    (hl : cells.length ≤ c.size) (hc : ∀ (j : Nat) (u : Value), cells[j]? = some u → ∃ v, c[j]? = some v ∧ VRel ρ u v) :
    ρ k = none ∧ Rel C (upd ρ k (some ⟨w.heap.size, 0, c.size, st⟩)) ⟨S.T, wr [(k, .live ⟨cells, e, true, st⟩)] S.H⟩ a (w.alloc (.cells c e)) := by
  have hn := h.heap.fresh k hk
  have hle := Ren.le_upd (ρ := ρ) ⟨w.heap.size, 0, c.size, st⟩ hn
  have old : ∀ k' b sp, k' ≠ k → S.H k' = .live b → upd ρ k (some ⟨w.heap.size, 0, c.size, st⟩) k' = some sp → ρ k' = some sp ∧ (¬ Void b → sp.block < w.heap.size) := fun k' b sp hne hb hsp => by
    rw [j3 _ _ hne] at hsp
    obtain ⟨sp', h1, h2⟩ := h.heap.live k' b hb
    rw [hsp] at h1; cases h1
    exact ⟨hsp, fun nv => h2.lt nv⟩
  rw [eX]
  refine ⟨hn, h.size, h.defers, fun t v hv => ?_, ⟨fun k' (hf : upd S.H k _ k' = .fresh) => ?_, fun k' b (hb : upd S.H k _ k' = .live b) => ?_, ?_⟩, ⟨h.frame.os, h.frame.tape, h.frame.output, ?_, fun b hb hW => ?_⟩, fun k' b sp (hb : upd S.H k _ k' = .live b) ho hsp => ?_, fun k' hk' => ?_⟩
  · obtain ⟨v', h1, h2⟩ := h.temps t v hv
    exact ⟨v', h1, h2.mono hle⟩
  · by_cases e : k' = k
    · subst e; rw [jE] at hf; cases hf
    · rw [j3 _ _ e] at hf ⊢; exact h.heap.fresh k' hf
  · by_cases e : k' = k
    · subst e; rw [jE] at hb; cases hb
      refine ⟨_, jE _ _ _, ?_⟩
      rw [jC.own rfl]
      exact ⟨rfl, c, heap_alloc_new w _, Nat.zero_add _, hl, fun j u hu => let ⟨v, h1, h2⟩ := hc j u hu; ⟨v, by simpa using h1, h2.mono hle⟩⟩
    · rw [j3 _ _ e] at hb
      obtain ⟨sp, h1, h2⟩ := h.heap.live k' b hb
      exact ⟨sp, by rw [j3 _ _ e]; exact h1, (h2.mono hle).same (fun nv => heap_alloc_old w _ _ (h2.lt nv))⟩
  · intro k1 k2 b1 b2 sp1 sp2 hne (hb1 : upd S.H k _ k1 = .live b1) (hb2 : upd S.H k _ k2 = .live b2) ho nv h1 h2
    by_cases e1 : k1 = k
    · subst e1
      rw [jE] at h1; cases h1
      rw [j3 _ _ (Ne.symm hne)] at hb2
      have := (old k2 b2 sp2 (Ne.symm hne) hb2 h2).2 nv
      exact Nat.ne_of_gt this
    · by_cases e2 : k2 = k
      · subst e2
        rw [jE] at h2; cases h2
        rw [j3 _ _ e1] at hb1
        have := (old k1 b1 sp1 e1 hb1 h1).2 (gZ ho)
        exact Nat.ne_of_lt this
      · rw [j3 _ _ e1] at hb1 h1
        rw [j3 _ _ e2] at hb2 h2
        exact h.heap.apart k1 k2 b1 b2 sp1 sp2 hne hb1 hb2 ho nv h1 h2
  · have := h.frame.size; simp; omega
  · rw [heap_alloc_old w _ _ (by have := h.frame.size; omega)]; exact h.frame.block b hb hW
  · by_cases e : k' = k
    · subst e; rw [jE] at hsp; cases hsp; exact .inr h.frame.size
    · rw [j3 _ _ e] at hb hsp; exact h.owned k' b sp hb ho hsp
  · obtain ⟨sp, p1, p2⟩ := h.pin k' hk'
    exact ⟨sp, p1, by rw [j3 _ _ (fun e => by rw [e, hn] at p2; cases p2)]; exact p2⟩
theorem VRel.cells {ρ : Ren} {v v' : Value} (r : VRel ρ v v') : v.cells.toList.length = v'.cells.size ∧ ∀ (j : Nat) (u : Value), v.cells.toList[j]? = some u → ∃ x, v'.cells[j]? = some x ∧ VRel ρ u x := by
  have one : ∀ x x' : Value, x.cells = #[x] → x'.cells = #[x'] → VRel ρ x x' → x.cells.toList.length = x'.cells.size ∧ ∀ (j : Nat) (u : Value), x.cells.toList[j]? = some u → ∃ y, x'.cells[j]? = some y ∧ VRel ρ u y := by
    intro x x' h1 h2 r
    rw [h1, h2]
    refine ⟨rfl, fun j u hu => ?_⟩
    cases j with
    | zero => simp at hu; subst hu; exact ⟨x', rfl, r⟩
    | succ j => simp at hu
  cases r with
  | agg xs ys e hp =>
    refine ⟨by simp [Value.cells, e], fun j u hu => ?_⟩
    simp only [Value.cells, Array.getElem?_toList] at hu ⊢
    obtain ⟨hj, he⟩ := Array.getElem?_eq_some_iff.1 hu
    exact ⟨ys[j], Array.getElem?_eq_getElem (by omega), by rw [← he]; exact hp j hj⟩
  | bool b => exact one _ _ rfl rfl (.bool b)
  | int k n => exact one _ _ rfl rfl (.int k n)
  | string s => exact one _ _ rfl rfl (.string s)
  | ptr k off sp hk => exact one _ _ rfl rfl (.ptr k off sp hk)
  | nilPtr => exact one _ _ rfl rfl .nilPtr
  | nilFunc => exact one _ _ rfl rfl .nilFunc
  | nilIface => exact one _ _ rfl rfl .nilIface
  | nilSlice => exact one _ _ rfl rfl .nilSlice
  | slice k off len c cap sp hk hc hs => exact one _ _ rfl rfl (.slice k off len c cap sp hk hc hs)
  | slice0 k off c A => exact one _ _ rfl rfl (.slice0 k off c A)
  | func fn xs ys cs ds e a e' b => exact one _ _ rfl rfl (.func fn xs ys cs ds e a e' b)
  | tuple xs ys e a => exact one _ _ rfl rfl (.tuple xs ys e a)
theorem new_run {ρ : Ren} {a : Act} {w : World} (h : Rel C ρ S a w) {k : Nat} (hk : S.H k = .fresh) {t : TypeId} (st : Nat) {v v' : Value} (r : VRel ρ v v') :
    ∃ w' ρ' x, (newVar t v').run P w = .ok x w' ∧ VRel ρ' (.pointer (some ⟨k, 0, none⟩)) (.pointer (some x)) ∧ Rel C ρ' ⟨S.T, wr [(k, .live ⟨v.cells.toList, t, true, st⟩)] S.H⟩ a w' := by
  obtain ⟨h1, h2⟩ := r.cells
  obtain ⟨hn, hr⟩ := Rel.new h hk (cells := v.cells.toList) (c := v'.cells) (e := t) (st := st) (by omega) h2
  refine ⟨_, _, ⟨w.heap.size, 0, none⟩, ?_, ?_, hr⟩
  · simp only [newVar, newRow, Sem.run_bind, run_newObj, Result.andThen_ok, Sem.run_pure]; rfl
  · have := VRel.ptr (ρ := upd ρ k (some ⟨w.heap.size, 0, v'.cells.size, st⟩)) k 0 _ (jE _ _ _)
    exact this
def zeroOf (P : Program) (t : TypeId) : Option Value := (P.info? t).bind (·.zero)
theorem bY {t : TypeId} {v : Value} (h : zeroOf P t = some v) (w : World) : (zeroValue t).run P w = .ok v w := by
  unfold zeroOf at h
  rw [Option.bind_eq_some_iff] at h
  obtain ⟨inf, h1, h2⟩ := h
  exact mS h1 h2
theorem qF1 {t : TypeId} {k : Nat} {v : Value} {cells : List Value} {st : Nat} (hs : qZ ops S i = some (.alloc t, true)) (hk : S.H k = .fresh) (hz : zeroOf P t = some v) (hf : flatB v = true) (hc : v.cells.toList = cells) :
    Does C P ops i S ⟨[k], .pointer (some ⟨k, 0, none⟩), [(k, .live ⟨cells, t, true, st⟩)]⟩ :=
  .of_run hs fun o ho S' ρ a w hT hH' hr => by
    obtain ⟨w', ρ', x, h1, h2, h3⟩ := new_run (P := P) hr (by rw [hH' k (by simp)]; exact hk) (t := t) st (VRel.of_only (qT hf))
    subst hc
    exact ⟨_, w', ρ', _, by simp [execOp, ho, Instr.alloc, bY hz, h1], .inl rfl, h2, h3⟩
theorem does_box {t : TypeId} {x : Operand} {k : Nat} {v : Value} {cells : List Value} {st : Nat} (hs : qZ ops S i = some (.box t x, true)) (hk : S.H k = .fresh) (hx : ev S x = some v) (hc : v.cells.toList = cells) :
    Does C P ops i S ⟨[k], .pointer (some ⟨k, 0, none⟩), [(k, .live ⟨cells, t, true, st⟩)]⟩ :=
  .of_run hs fun o ho S' ρ a w hT hH' hr => by
    have hrx := jM hr (by rw [hT x (by simp [Op.operands])]; exact hx)
    obtain ⟨w', ρ', y, h1, h2, h3⟩ := new_run (P := P) hr (by rw [hH' k (by simp)]; exact hk) (t := t) st hrx
    subst hc
    exact ⟨_, w', ρ', _, by simp [execOp, ho, Instr.box, h1], .inl rfl, h2, h3⟩
def setL : List Value → Nat → List Value → List Value
  | l, _, [] => l
  | l, off, v :: vs => setL (l.set off v) (off + 1) vs
theorem cJ : ∀ (vs l : List Value) (off : Nat), (setL l off vs).length = l.length
  | [], l, off => rfl
  | v :: vs, l, off => by simp [setL, cJ vs]
def fM (v : Value) : Bool := match v with | .agg _ | .tuple _ => false | _ => true
theorem rM {ρ : Ren} {v v' : Value} (r : VRel ρ v v') (h : fM v = true) : v'.oneCell' = true := by
  cases r <;> first | rfl | (cases h)
theorem mQ : ∀ (vs l : List Value) (off : Nat), off + vs.length ≤ l.length → ∀ j, (setL l off vs)[j]? = if off ≤ j ∧ j < off + vs.length then vs[j - off]? else l[j]?
  | [], l, off, _, j => by simp [setL]; omega
  | v :: vs, l, off, h, j => by
    simp only [setL]
    rw [mQ vs (l.set off v) (off + 1) (by simp at h ⊢; omega) j]
    simp only [List.length_cons] at h ⊢
    by_cases e : j = off
    · subst e
      rw [if_neg (by omega), if_pos (by omega), List.getElem?_set_self (by omega)]
      simp
    · by_cases e2 : off + 1 ≤ j ∧ j < off + 1 + vs.length
      · rw [if_pos e2, if_pos (by omega), show j - off = (j - (off + 1)) + 1 by omega]; simp
      · rw [if_neg e2, if_neg (by omega), List.getElem?_set_ne (Ne.symm e)]
/-- The row behind a store: 'fin' tells what the row is to hold. -/
theorem j7 {ρ : Ren} {blk o : Nat} {e : TypeId} {fin : List Value} : ∀ (us vs : List Value) (w : World) (c : Array Value) (off i : Nat),
    w.heap[blk]? = some (.cells c e (0, 0)) → o + off + i + us.length ≤ c.size → us.length = vs.length → (∀ u ∈ us, fM u = true) →
    (∀ (j : Nat) (u : Value), us[j]? = some u → ∃ v, vs[j]? = some v ∧ VRel ρ u v) → (∀ (j : Nat) (u : Value), us[j]? = some u → fin[off + i + j]? = some u) →
    (∀ (j : Nat) (u : Value), (j < off + i ∨ off + i + us.length ≤ j) → fin[j]? = some u → ∃ v, c[o + j]? = some v ∧ VRel ρ u v) →
    ∃ w' c', (storeCells ⟨blk, o + off, none⟩ vs i).run P w = .ok () w' ∧ w'.heap[blk]? = some (.cells c' e (0, 0)) ∧ c'.size = c.size ∧
      (∀ (j : Nat) (u : Value), fin[j]? = some u → ∃ v, c'[o + j]? = some v ∧ VRel ρ u v) ∧
      w'.heap.size = w.heap.size ∧ w'.os = w.os ∧ w'.tape = w.tape ∧ w'.output = w.output ∧ ∀ b, b ≠ blk → w'.heap[b]? = w.heap[b]?
  | [], vs, w, c, off, i, hg, _, hl, _, _, _, hc => by
    have : vs = [] := by cases vs with | nil => rfl | cons _ _ => simp at hl
    subst this
    exact ⟨w, c, rfl, hg, rfl, fun j u hu => hc j u (by simp only [List.length_nil]; omega) hu, rfl, rfl, rfl, rfl, fun _ _ => rfl⟩
  | u :: us, [], _, _, _, _, _, _, hl, _, _, _, _ => by simp at hl
  | u :: us, v :: vs, w, c, off, i, hg, hle, hl, hp, hv, hf, hc => by
    obtain ⟨v0, hv0, hr0⟩ := hv 0 u rfl
    simp only [List.getElem?_cons_zero, Option.some.injEq] at hv0
    subst hv0
    have hone := rM hr0 (hp u List.mem_cons_self)
    have hlt : o + off + i < c.size := by simp at hle; omega
    have hcell : w.cell? ⟨blk, o + off + i, none⟩ = some c[o + off + i] := by rw [cell_of_row w blk (o + off + i) c e (0, 0) hg]; exact Array.getElem?_eq_getElem hlt
    have hfr : w.frozen? ⟨blk, o + off + i, none⟩ = false := frozen_of_row w blk (o + off + i) c e hg
    have hw1 := heap_setCell_same w blk (o + off + i) c e v hg
    have hst : (store ((⟨blk, o + off, none⟩ : Addr).add i) v).run P w = .ok () (w.setCell ⟨blk, o + off + i, none⟩ v) := by
      rw [run_store P w _ v _ hone, add_at, hcell]
      simp [hfr]
    obtain ⟨w', c', h1, h2, h3, h4, h5, h6, h7, h8, h9⟩ := j7 (ρ := ρ) (o := o) (fin := fin) us vs (w.setCell ⟨blk, o + off + i, none⟩ v) (c.setIfInBounds (o + off + i) v) off (i + 1) hw1
      (by simp at hle ⊢; omega) (by simpa using hl) (fun x hx => hp x (List.mem_cons_of_mem _ hx)) (fun j x hx => hv (j + 1) x hx)
      (fun j x hx => by have := hf (j + 1) x hx; rwa [show off + i + (j + 1) = off + (i + 1) + j by omega] at this)
      (fun j x hj hx => by
        by_cases ej : j = off + i
        · subst ej
          have := hf 0 u rfl
          rw [Nat.add_zero, hx] at this
          cases this
          refine ⟨v, ?_, hr0⟩
          rw [show o + (off + i) = o + off + i by omega]; simp [hlt]
        · rw [Array.getElem?_setIfInBounds_ne (by omega)]
          exact hc j x (by simp only [List.length_cons]; omega) hx)
    refine ⟨w', c', ?_, h2, by rw [h3]; simp, h4, by rw [h5]; simp, h6, h7, h8, fun b hb => by rw [h9 b hb]; exact heap_setCell_other w _ b v hb⟩
    simp only [storeCells, Sem.run_bind]
    rw [hst, Result.andThen_ok]
    exact h1
theorem Rel.write {ρ : Ren} {a : Act} {w w' : World} (h : Rel C ρ S a w) {k : Nat} {b : Blk} {sp : Spot} (hk : S.H k = .live b) (ho : b.own = true) (hsp : ρ k = some sp)
    {cells : List Value} (hlen : cells.length ≤ sp.size) {c' : Array Value} (hg : w'.heap[sp.block]? = some (.cells c' b.elem (0, 0))) (hs : sp.off + sp.size = c'.size)
    (hc : ∀ (j : Nat) (u : Value), cells[j]? = some u → ∃ v, c'[sp.off + j]? = some v ∧ VRel ρ u v)
    (hz : w'.heap.size = w.heap.size) (h1 : w'.os = w.os) (h2 : w'.tape = w.tape) (h3 : w'.output = w.output) (hoth : ∀ x, x ≠ sp.block → w'.heap[x]? = w.heap[x]?) :
    Rel C ρ ⟨S.T, wr [(k, .live ⟨cells, b.elem, true, b.step⟩)] S.H⟩ a w' := by
  rw [eX]
  refine ⟨h.size, h.defers, h.temps, ⟨fun k' (hf : upd S.H k _ k' = .fresh) => ?_, fun k' b' (hb' : upd S.H k _ k' = .live b') => ?_, ?_⟩, ⟨h1.trans h.frame.os, h2.trans h.frame.tape, h3.trans h.frame.output, by have := h.frame.size; omega, fun x hx hW => ?_⟩, fun k' b' sp' (hb' : upd S.H k _ k' = .live b') ho' hsp' => ?_, h.pin⟩
  · by_cases e : k' = k
    · subst e; rw [jE] at hf; cases hf
    · rw [j3 _ _ e] at hf; exact h.heap.fresh k' hf
  · by_cases e : k' = k
    · subst e; rw [jE] at hb'; cases hb'
      refine ⟨sp, hsp, ?_⟩
      obtain ⟨sp2, e1, e2⟩ := h.heap.live k' b hk
      rw [hsp] at e1; cases e1
      rw [jC.own ho] at e2
      rw [jC.own rfl]
      exact ⟨e2.1, c', hg, hs, hlen, hc⟩
    · rw [j3 _ _ e] at hb'
      obtain ⟨sp2, e1, e2⟩ := h.heap.live k' b' hb'
      exact ⟨sp2, e1, e2.same (fun nv => hoth _ (Ne.symm (h.heap.apart k k' b b' sp sp2 (Ne.symm e) hk hb' ho nv hsp e1)))⟩
  · intro k1 k2 b1 b2 sp1 sp2 hne (hb1 : upd S.H k _ k1 = .live b1) (hb2 : upd S.H k _ k2 = .live b2) ho1 nv e1 e2
    have get : ∀ kk bb, upd S.H k (.live ⟨cells, b.elem, true, b.step⟩) kk = .live bb → ∃ b0, S.H kk = .live b0 ∧ (b0.own = bb.own) ∧ (¬ Void bb → ¬ Void b0) := fun kk bb hh => by
      by_cases e : kk = k
      · subst e; rw [jE] at hh; cases hh; exact ⟨b, hk, ho, fun _ => gZ ho⟩
      · rw [j3 _ _ e] at hh; exact ⟨bb, hh, rfl, id⟩
    obtain ⟨x1, a1, a2, _⟩ := get k1 b1 hb1
    obtain ⟨x2, a3, _, a4⟩ := get k2 b2 hb2
    exact h.heap.apart k1 k2 x1 x2 sp1 sp2 hne a1 a3 (a2.trans ho1) (a4 nv) e1 e2
  · have hne : x ≠ sp.block := fun e => by
      rcases h.owned k b sp hk ho hsp with hw | hw
      · rw [e] at hW; exact hW hw
      · omega
    rw [hoth x hne]; exact h.frame.block x hx hW
  · by_cases e : k' = k
    · subst e; exact h.owned k' b sp' hk ho hsp'
    · rw [j3 _ _ e] at hb'; exact h.owned k' b' sp' hb' ho' hsp'
def vK (l : List Value) : Bool := l.all fM
theorem j4 {t : TypeId} {x y : Operand} {k off : Nat} {b : Blk} {v : Value} {cells : List Value} (hs : qZ ops S i = some (.store t x y, true)) (hx : ev S x = some (.pointer (some ⟨k, off, none⟩)))
    (hy : ev S y = some v) (hH : S.H k = .live b) (ho : b.own = true) (hz : (P.info? t).map (·.size) = some v.cells.toList.length) (hp : vK v.cells.toList = true)
    (hle : Nat.ble (off + v.cells.toList.length) b.cells.length = true) (hc : setL b.cells off v.cells.toList = cells) : Does C P ops i S ⟨[k], undef, [(k, .live ⟨cells, b.elem, true, b.step⟩)]⟩ :=
  .of_run hs fun o hop S' ρ a w hT hH' hr => by
    have hrx := jM hr (by rw [hT x (by simp [Op.operands])]; exact hx)
    have hry := jM hr (by rw [hT y (by simp [Op.operands])]; exact hy)
    generalize hax : a.eval x = ax at hrx
    generalize hay : a.eval y = ay at hry
    cases hrx with
    | ptr _ _ sp hk =>
      have hH2 : S'.H k = .live b := by rw [hH' k (by simp)]; exact hH
      obtain ⟨sp', hk', hb⟩ := hr.heap.live k b hH2
      rw [hk] at hk'; cases hk'
      have hb2 := hb
      rw [jC.own ho] at hb2
      obtain ⟨_, c, hg, hcs, hcl, hcc⟩ := hb2
      obtain ⟨e1, e2⟩ := hry.cells
      have hle' := Nat.le_of_ble_eq_true hle
      have hget := mQ v.cells.toList b.cells off hle'
      obtain ⟨w', c', r1, r2, r3, r4, r5, r6, r7, r8, r9⟩ := j7 (P := P) (ρ := ρ) (blk := sp.block) (o := sp.off) (e := b.elem) (fin := setL b.cells off v.cells.toList) v.cells.toList ay.cells.toList w c off 0 hg
        (by omega) (by simpa using e1) (fun u hu => List.all_eq_true.1 hp u hu) (fun j u hu => by obtain ⟨z, z1, z2⟩ := e2 j u hu; exact ⟨z, by simpa using z1, z2⟩)
        (fun j u hu => by
          obtain ⟨hj, _⟩ := List.getElem?_eq_some_iff.1 hu
          rw [hget, if_pos (by omega), show off + 0 + j - off = j by omega]; exact hu)
        (fun j u hj hu => by
          rw [hget, if_neg (by omega)] at hu
          exact hcc j u hu)
      subst hc
      rw [Option.map_eq_some_iff] at hz
      obtain ⟨inf, hi, hsz⟩ := hz
      refine ⟨.skip, w', ρ, undef, ?_, .inr ⟨rfl, rfl⟩, .of_only (qT rfl), ?_⟩
      · have hne : ¬ (ay.cells.size ≠ inf.size) := by rw [hsz, e1]; simp
        simp only [execOp, hop, hax, hay, Instr.storeAt, Instr.sureAddr, storeVar, Sem.run_bind, Sem.run_pure, Result.andThen_ok, gQ hi, Sem.run_ite, hne, if_false, r1]
      · exact Rel.write hr hH2 ho hk (by rw [cJ]; omega) r2 (by rw [r3]; exact hcs) r4 r5 r6 r7 r8 r9
end
def Lift (C : Ctx) (Q : Exit → St → Prop) : Exit → Act → World → Prop := fun e a w => ∃ ρ S, Q e S ∧ Rel C ρ S a w
def AW (C : Ctx) (P : Program) (c : Code) (S : St) (Q : Exit → St → Prop) : Prop := ∀ ρ a w, Rel C ρ S a w → c.wp P (Lift C Q) a w
def rA (K : St → Prop) (Q : Exit → St → Prop) : Exit → St → Prop
  | .normal, S => K S
  | e, S => Q e S
def lN (id : Nat) (Q : Exit → St → Prop) : Exit → St → Prop
  | .exit id', S => (id' = id → Q .normal S) ∧ (id' ≠ id → Q (.exit id') S)
  | e, S => Q e S
section
variable {C : Ctx} {P : Program} {S S1 : St} {Q : Exit → St → Prop}
theorem aw_seq {c x y : Code} (hc : c = .seq x y) (h : AW C P x S (rA (fun S' => AW C P y S' Q) Q)) : AW C P c S Q := by
  subst hc
  intro ρ a w hr
  refine wp_seq (wp_mono (h ρ a w hr) ?_)
  rintro e a' w' ⟨ρ', S', h1, h2⟩
  cases e with
  | normal => exact h1 ρ' a' w' h2
  | _ => exact ⟨ρ', S', h1, h2⟩
theorem aw_skip {c : Code} (hc : c = .skip) (h : Q .normal S) : AW C P c S Q := by subst hc; exact fun ρ a w hr => wp_skip ⟨ρ, S, h, hr⟩
theorem aw_ret {c : Code} (hc : c = .ret) (h : Q .ret S) : AW C P c S Q := by subst hc; exact fun ρ a w hr => wp_ret ⟨ρ, S, h, hr⟩
theorem aw_exit {c : Code} {id : Nat} (hc : c = .exit id) (h : Q (.exit id) S) : AW C P c S Q := by subst hc; exact fun ρ a w hr => wp_exit ⟨ρ, S, h, hr⟩
theorem aw_block {c x : Code} {id : Nat} (hc : c = .block id x) (h : AW C P x S (lN id Q)) : AW C P c S Q := by
  subst hc
  intro ρ a w hr
  refine wp_block (wp_mono (h ρ a w hr) ?_)
  rintro e a' w' ⟨ρ', S', h1, h2⟩
  cases e with
  | exit id' =>
    simp only [Exit.inBlock]
    split
    · rename_i e; exact ⟨ρ', S', h1.1 e, h2⟩
    · rename_i e; exact ⟨ρ', S', h1.2 e, h2⟩
  | _ => exact ⟨ρ', S', h1, h2⟩
theorem eQ {c x y : Code} {o : Operand} {b : Bool} (hc : c = .cond o x y) (ho : ev S o = some (.bool b)) (h1 : b = true → AW C P x S Q) (h2 : b = false → AW C P y S Q) : AW C P c S Q := by
  subst hc
  intro ρ a w hr
  have hv := jM hr ho
  generalize hx : a.eval o = ax at hv
  cases hv
  exact wp_cond_split hx (fun e => h1 e ρ a w hr) (fun e => h2 e ρ a w hr)
/-- A state that says less. -/
def Weak (C : Ctx) (S S' : St) : Prop := ∀ ρ a w, Rel C ρ S a w → ∃ ρ', Rel C ρ' S' a w
theorem yL {c : Code} (hw : Weak C S S1) (h : AW C P c S1 Q) : AW C P c S Q := fun ρ a w hr => let ⟨ρ', h'⟩ := hw ρ a w hr; h ρ' a w h'
/-- Regions. -/
theorem qC7 {c : Code} {id : Nat} {ops : Array Oper} {steps : List Step} (hc : c = .region id ops false) (hd : dstB ops C.n = true) (hn : steps.length = ops.size)
    (hr : Runs C P ops 0 S steps S1) (hq : Q .normal S1) : AW C P c S Q := by
  subst hc
  exact fun ρ a w h => rH hd hr hn h (fun ρ' a' w' h' => ⟨ρ', S1, hq, h'⟩)
theorem qC8 {c : Code} {id : Nat} {ops : Array Oper} {steps : List Step} (A : List (List Nat)) (hm : P.follows .mixedOrders = true) (hc : c = .region id ops true) (hd : dstB ops C.n = true)
    (hn : steps.length = ops.size) (hA : (tU ops A && gH ops A && vH ops steps A) = true) (hr : Runs C P ops 0 S steps S1) (hq : Q .normal S1) : AW C P c S Q := by
  subst hc
  exact fun ρ a w h => rJ hm hd hr hn hA h (fun ρ' a' w' h' => ⟨ρ', S1, hq, h'⟩)
end
def ofT : List (Nat × Value) → Nat → Option Value
  | [], _ => none
  | (t, v) :: l, n => bif Nat.beq n t then some v else ofT l n
def ofH (d : Cell) : List (Nat × Blk) → Nat → Cell
  | [], _ => d
  | (k, b) :: l, n => bif Nat.beq n k then .live b else ofH d l n
def base (m k : Nat) : Cell := bif Nat.blt k m then .gone else .fresh
def mkSt (m : Nat) (T : List (Nat × Value)) (L : List (Nat × Blk)) : St := ⟨ofT T, fun k => ofH (base m k) L k⟩
theorem vZ {T : List (Nat × Value)} {t : Nat} {v : Value} (h : ofT T t = some v) : (t, v) ∈ T := by
  induction T with
  | nil => cases h
  | cons x l ih =>
    obtain ⟨t', v'⟩ := x
    simp only [ofT] at h
    cases hb : Nat.beq t t' with
    | true => rw [hb] at h; simp only [cond_true, Option.some.injEq] at h; rw [Nat.eq_of_beq_eq_true hb, h]; exact List.mem_cons_self
    | false => rw [hb] at h; exact List.mem_cons_of_mem _ (ih h)
theorem jY {L : List (Nat × Blk)} {d : Cell} (hd : ∀ b, d ≠ .live b) {k : Nat} {b : Blk} (h : ofH d L k = .live b) : (k, b) ∈ L := by
  induction L with
  | nil => exact absurd h (hd b)
  | cons x l ih =>
    obtain ⟨k', b'⟩ := x
    simp only [ofH] at h
    cases hb : Nat.beq k k' with
    | true => rw [hb] at h; simp only [cond_true, Cell.live.injEq] at h; rw [Nat.eq_of_beq_eq_true hb, h]; exact List.mem_cons_self
    | false => rw [hb] at h; exact List.mem_cons_of_mem _ (ih h)
theorem xF {L : List (Nat × Blk)} {d : Cell} {k : Nat} (h : k ∈ L.map (·.1)) : ∃ b, ofH d L k = .live b := by
  induction L with
  | nil => cases h
  | cons x l ih =>
    obtain ⟨k', b'⟩ := x
    simp only [ofH]
    cases hb : Nat.beq k k' with
    | true => exact ⟨b', rfl⟩
    | false =>
      simp only [List.map_cons, List.mem_cons] at h
      rcases h with h | h
      · subst h; simp at hb
      · exact ih h
theorem v7 {L : List (Nat × Blk)} {d : Cell} {k : Nat} (h : k ∉ L.map (·.1)) : ofH d L k = d := by
  induction L with
  | nil => rfl
  | cons x l ih =>
    obtain ⟨k', b'⟩ := x
    simp only [List.map_cons, List.mem_cons, not_or] at h
    simp only [ofH]
    cases hb : Nat.beq k k' with
    | true => exact absurd (Nat.eq_of_beq_eq_true hb) h.1
    | false => exact ih h.2
/-- What is asked of the old state: the temporaries, the blocks. -/
def AllT (S : St) : List (Nat × Value) → Prop
  | [] => True
  | (t, v) :: l => S.T t = some v ∧ AllT S l
def AllH (S : St) : List (Nat × Blk) → Prop
  | [] => True
  | (k, b) :: l => S.H k = .live b ∧ AllH S l
theorem AllT.mem {S : St} {T : List (Nat × Value)} (h : AllT S T) {t : Nat} {v : Value} (hm : (t, v) ∈ T) : S.T t = some v := by
  induction T with
  | nil => cases hm
  | cons x l ih =>
    cases hm with
    | head => exact h.1
    | tail _ hm => exact ih h.2 hm
theorem AllH.mem {S : St} {L : List (Nat × Blk)} (h : AllH S L) {k : Nat} {b : Blk} (hm : (k, b) ∈ L) : S.H k = .live b := by
  induction L with
  | nil => cases hm
  | cons x l ih =>
    cases hm with
    | head => exact h.1
    | tail _ hm => exact ih h.2 hm
/-- Every name in the lists is one of the blocks told. -/
def keyB (m : Nat) (L : List (Nat × Blk)) (k : Nat) : Prop := (Nat.blt k m || (L.map (·.1)).any (Nat.beq k)) = true
def fL (p : Nat → Prop) : List Value → Prop
  | [] => True
  | v :: l => Only p v ∧ fL p l
theorem fL.mem {p : Nat → Prop} {l : List Value} (h : fL p l) {v : Value} (hm : v ∈ l) : Only p v := by
  induction l with
  | nil => cases hm
  | cons x l ih =>
    cases hm with
    | head => exact h.1
    | tail _ hm => exact ih h.2 hm
def uT (p : Nat → Prop) : List (Nat × Value) → Prop
  | [] => True
  | (_, v) :: l => Only p v ∧ uT p l
def uU (p : Nat → Prop) : List (Nat × Blk) → Prop
  | [] => True
  | (_, b) :: l => (∀ v, v ∈ b.cells → Only p v) ∧ uU p l
theorem uT.mem {p : Nat → Prop} {T : List (Nat × Value)} (h : uT p T) {t : Nat} {v : Value} (hm : (t, v) ∈ T) : Only p v := by
  induction T with
  | nil => cases hm
  | cons x l ih =>
    cases hm with
    | head => exact h.1
    | tail _ hm => exact ih h.2 hm
theorem uU.mem {p : Nat → Prop} {L : List (Nat × Blk)} (h : uU p L) {k : Nat} {b : Blk} (hm : (k, b) ∈ L) : ∀ v, v ∈ b.cells → Only p v := by
  induction L with
  | nil => cases hm
  | cons x l ih =>
    cases hm with
    | head => exact h.1
    | tail _ hm => exact ih h.2 hm
theorem jC.congr {ρ ρ' : Ren} {p : Nat → Prop} {w : World} {sp : Spot} {b : Blk} (h : jC ρ w sp b) (hc : ∀ v, v ∈ b.cells → Only p v) (hp : ∀ k, p k → ρ k = ρ' k) : jC ρ' w sp b :=
  h.map rfl rfl rfl (Nat.le_refl _) (fun _ u hu => ⟨u, hu, fun _ r => r.congr (hc u (List.mem_of_getElem? hu)) hp⟩)
theorem weak_to {C : Ctx} {S : St} {T : List (Nat × Value)} {L : List (Nat × Blk)} (hT : AllT S T) (hL : AllH S L) (cT : uT (keyB C.m L) T) (cL : uU (keyB C.m L) L) : Weak C S (mkSt C.m T L) := by
  intro ρ a w h
  have hdf : ∀ k b, base C.m k ≠ .live b := fun k b e => by unfold base at e; cases hh : Nat.blt k C.m <;> rw [hh] at e <;> cases e
  let ρ' : Ren := fun k => bif (Nat.blt k C.m || (L.map (·.1)).any (Nat.beq k)) then ρ k else none
  have hp : ∀ k, keyB C.m L k → ρ k = ρ' k := fun k hk => by
    have hk' : (Nat.blt k C.m || (L.map (·.1)).any (Nat.beq k)) = true := hk
    simp only [ρ', hk', cond_true]
  have hsub : ∀ k sp, ρ' k = some sp → ρ k = some sp := fun k sp hk => by
    simp only [ρ'] at hk
    cases hb : (Nat.blt k C.m || (L.map (·.1)).any (Nat.beq k)) with
    | true => rw [hb] at hk; exact hk
    | false => rw [hb] at hk; cases hk
  have hlive : ∀ k b, ofH (base C.m k) L k = .live b → S.H k = .live b ∧ (k, b) ∈ L ∧ keyB C.m L k := fun k b hk => by
    have hm := jY (hdf k) hk
    exact ⟨hL.mem hm, hm, by unfold keyB; rw [any_beq.2 (List.mem_map.2 ⟨(k, b), hm, rfl⟩)]; simp⟩
  refine ⟨ρ', h.size, h.defers, fun t v hv => ?_, ⟨fun k hk => ?_, fun k b hk => ?_, ?_⟩, h.frame, fun k b sp hk ho hsp => ?_, fun k hk => ?_⟩
  · have hm := vZ hv
    obtain ⟨v', h1, h2⟩ := h.temps t v (hT.mem hm)
    exact ⟨v', h1, h2.congr (cT.mem hm) hp⟩
  · have hk2 : ofH (base C.m k) L k = .fresh := hk
    have hn : ¬ (Nat.blt k C.m || (L.map (·.1)).any (Nat.beq k)) = true := fun hb => by
      by_cases hm : k ∈ L.map (·.1)
      · obtain ⟨b, hb'⟩ := xF (d := base C.m k) hm
        rw [hb'] at hk2; cases hk2
      · rw [v7 hm] at hk2
        rw [Bool.or_eq_true] at hb
        rcases hb with hb | hb
        · unfold base at hk2; rw [hb] at hk2; cases hk2
        · exact hm (any_beq.1 hb)
    simp only [ρ', hn, cond_false]
  · obtain ⟨h1, h2, h3⟩ := hlive k b hk
    obtain ⟨sp, e1, e2⟩ := h.heap.live k b h1
    exact ⟨sp, by rw [← hp k h3]; exact e1, e2.congr (cL.mem h2) hp⟩
  · intro k1 k2 b1 b2 sp1 sp2 hne h1 h2 ho nv e1 e2
    exact h.heap.apart k1 k2 b1 b2 sp1 sp2 hne (hlive k1 b1 h1).1 (hlive k2 b2 h2).1 ho nv (hsub _ _ e1) (hsub _ _ e2)
  · exact h.owned k b sp (hlive k b hk).1 ho (hsub _ _ hsp)
  · obtain ⟨sp, p1, p2⟩ := h.pin k hk
    refine ⟨sp, p1, ?_⟩
    rw [← hp k (by unfold keyB; rw [show Nat.blt k C.m = true from Nat.ble_eq_true_of_le hk]; rfl)]; exact p2
/-- The blocks told, and nothing on the others. -/
structure HOkL (ρ : Ren) (w : World) (L : List (Nat × Blk)) : Prop where
  live : ∀ k b, (k, b) ∈ L → ∃ sp, ρ k = some sp ∧ jC ρ w sp b
  apart : ∀ k k' b b' sp sp', k ≠ k' → (k, b) ∈ L → (k', b') ∈ L → b.own = true → ¬ Void b' → ρ k = some sp → ρ k' = some sp' → sp.block ≠ sp'.block
def jX (ρ : Ren) (L : List (Nat × Blk)) : Nat → Prop := fun x => ∃ k b sp, (k, b) ∈ L ∧ b.own = true ∧ ρ k = some sp ∧ sp.block = x
/-- Called with these arguments, where the blocks 'pre' (numbers 0 to m - 1) lie: the value; the blocks 'post': those of 'pre' that are written, and new ones (numbers from m on). -/
def AC (P : Program) (f : FuncId) (m : Nat) (args : List Value) (pre : List (Nat × Blk)) (v : Value) (post : List (Nat × Blk)) : Prop :=
  ∀ (ρ : Ren) (w : World) (args' : Array Value), args.length = args'.size → (∀ (j : Nat) (u : Value), args[j]? = some u → ∃ x, args'[j]? = some x ∧ VRel ρ u x) →
    HOkL ρ w pre → (∀ k, k < m → ∃ sp, ρ k = some sp) → (∀ k, m ≤ k → ρ k = none) →
    Calls P f args' w fun e w' => ∃ v' ρ', e = .returned v' ∧ VRel ρ' v v' ∧ (∀ k, k < m → ρ' k = ρ k) ∧ HOkL ρ' w' post ∧
      (∀ k b sp, m ≤ k → (k, b) ∈ post → ρ' k = some sp → w.heap.size ≤ sp.block ∨ jX ρ pre sp.block) ∧ FrameOk w (jX ρ pre) w'
/-- The same in one world. -/
def ACw (P : Program) (w : World) (f : FuncId) (m : Nat) (args : List Value) (pre : List (Nat × Blk)) (v : Value) (post : List (Nat × Blk)) : Prop :=
  ∀ (ρ : Ren) (args' : Array Value), args.length = args'.size → (∀ (j : Nat) (u : Value), args[j]? = some u → ∃ x, args'[j]? = some x ∧ VRel ρ u x) →
    HOkL ρ w pre → (∀ k, k < m → ∃ sp, ρ k = some sp) → (∀ k, m ≤ k → ρ k = none) →
    Calls P f args' w fun e w' => ∃ v' ρ', e = .returned v' ∧ VRel ρ' v v' ∧ (∀ k, k < m → ρ' k = ρ k) ∧ HOkL ρ' w' post ∧
      (∀ k b sp, m ≤ k → (k, b) ∈ post → ρ' k = some sp → w.heap.size ≤ sp.block ∨ jX ρ pre sp.block) ∧ FrameOk w (jX ρ pre) w'
theorem AC.at {P : Program} {f : FuncId} {m : Nat} {args : List Value} {pre : List (Nat × Blk)} {v : Value} {post : List (Nat × Blk)} (h : AC P f m args pre v post) (w : World) : ACw P w f m args pre v post := fun ρ args' => h ρ w args'
def fF : Nat → List Value → List (Nat × Value)
  | _, [] => []
  | i, v :: l => (i, v) :: fF (i + 1) l
theorem uR {l : List Value} {i t : Nat} {v : Value} (h : (t, v) ∈ fF i l) : ∃ j, t = i + j ∧ l[j]? = some v := by
  induction l generalizing i with
  | nil => cases h
  | cons x l ih =>
    cases h with
    | head => exact ⟨0, rfl, rfl⟩
    | tail _ h =>
      obtain ⟨j, h1, h2⟩ := ih h
      exact ⟨j + 1, by omega, by simpa using h2⟩
/-- A result, ars the state sees it. -/
def resV (P : Program) (S : St) : ResultVar → Option Value
  | .tmp t => S.T t
  | .cell a t => match S.T a with
    | some (.pointer (some ⟨k, off, none⟩)) => match S.H k with
      | .live b => ldV P t b.cells off
      | _ => none
    | _ => none
def uY (P : Program) (S : St) : List ResultVar → Option (List Value)
  | [] => some []
  | r :: l => match resV P S r, uY P S l with
    | some v, some vs => some (v :: vs)
    | _, _ => none
def fV : List Value → Value
  | [v] => v
  | vs => .tuple vs.toArray
def resS (tmps : Array Value) : ResultVar → Sem Value
  | .tmp t => pure (tmps.getD t undef)
  | .cell x t => do loadVar t (← asAddr (tmps.getD x undef))
theorem bZ (fn : Func) (tmps : Array Value) : results fn tmps = (fn.results.mapM (resS tmps) >>= fun vs => pure (if h : vs.size = 1 then vs[0] else .tuple vs)) := by
  unfold results
  congr 1
theorem resV_run {C : Ctx} {P : Program} {S : St} {ρ : Ren} {a : Act} {w : World} (h : Rel C ρ S a w) {r : ResultVar} {v : Value} (hv : resV P S r = some v) :
    ∃ v', (resS a.tmps r).run P w = .ok v' w ∧ VRel ρ v v' := by
  cases r with
  | tmp t =>
    obtain ⟨v', h1, h2⟩ := h.temps t v hv
    exact ⟨v', by simp [resS, Array.getD_eq_getD_getElem?, h1], h2⟩
  | cell x t =>
    simp only [resV] at hv
    · split at hv
      · rename_i k off hx
        split at hv
        · rename_i b hb
          obtain ⟨p', h1, h2⟩ := h.temps x _ hx
          cases h2 with
          | ptr _ _ sp hk =>
            obtain ⟨sp', h3, h4⟩ := h.heap.live k b hb
            rw [hk] at h3; cases h3
            obtain ⟨v', h5, h6⟩ := ldV_run h4 hv
            exact ⟨v', by simp only [resS, Array.getD_eq_getD_getElem?, h1, Option.getD_some, asAddr, Sem.run_bind, Sem.run_pure, Result.andThen_ok, h5], h6⟩
        · cases hv
      · cases hv
theorem bA {C : Ctx} {P : Program} {S : St} {ρ : Ren} {a : Act} {w : World} (h : Rel C ρ S a w) : ∀ {l : List ResultVar} {vs : List Value}, uY P S l = some vs →
    ∃ vs', (l.mapM (resS a.tmps)).run P w = .ok vs' w ∧ vs'.length = vs.length ∧ ∀ (j : Nat) (u : Value), vs[j]? = some u → ∃ x, vs'[j]? = some x ∧ VRel ρ u x
  | [], vs, hv => by cases hv; exact ⟨[], by simp, rfl, fun j u hu => by simp at hu⟩
  | r :: l, vs, hv => by
    unfold uY at hv
    split at hv
    · rename_i v vs0 h1 h2
      cases hv
      obtain ⟨v', e1, e2⟩ := resV_run h h1
      obtain ⟨vs', f1, f2, f3⟩ := bA h h2
      refine ⟨v' :: vs', ?_, by simp [f2], fun j u hu => ?_⟩
      · rw [List.mapM_cons]
        simp only [Sem.run_bind]
        rw [e1, Result.andThen_ok, f1, Result.andThen_ok, Sem.run_pure]
      · cases j with
        | zero => simp only [List.getElem?_cons_zero, Option.some.injEq] at hu ⊢; subst hu; exact ⟨v', rfl, e2⟩
        | succ j => simp only [List.getElem?_cons_succ] at hu ⊢; exact f3 j u hu
    · cases hv
/-- The end of a body. -/
def EndQ (P : Program) (fn : Func) (v : Value) (post : List (Nat × Blk)) : Exit → St → Prop := fun e S =>
  (e = .ret ∨ e = .normal) ∧ ∃ vs, uY P S fn.results.toList = some vs ∧ fV vs = v ∧ AllH S post
theorem end_ret {P : Program} {fn : Func} {v : Value} {post : List (Nat × Blk)} {S : St} {vs : List Value} (h1 : uY P S fn.results.toList = some vs) (h2 : fV vs = v) (h3 : AllH S post) : EndQ P fn v post .ret S :=
  ⟨.inl rfl, vs, h1, h2, h3⟩
theorem qEH {P : Program} {fn : Func} {v : Value} {post : List (Nat × Blk)} {S : St} {vs : List Value} (h1 : uY P S fn.results.toList = some vs) (h2 : fV vs = v) (h3 : AllH S post) : EndQ P fn v post .normal S :=
  ⟨.inr rfl, vs, h1, h2, h3⟩
theorem cQ {ρ : Ren} {vs vs' : List Value} (hl : vs'.length = vs.length) (h : ∀ (j : Nat) (u : Value), vs[j]? = some u → ∃ x, vs'[j]? = some x ∧ VRel ρ u x) :
    VRel ρ (fV vs) (if h : vs'.toArray.size = 1 then vs'.toArray[0] else .tuple vs'.toArray) := by
  match vs, vs', hl, h with
  | [], [], _, _ => exact .tuple _ _ rfl (fun i hi => by simp at hi)
  | [v], [v'], _, h =>
    obtain ⟨x, h1, h2⟩ := h 0 v rfl
    simp only [List.getElem?_cons_zero, Option.some.injEq] at h1
    subst h1
    simpa [fV] using h2
  | v :: u :: l, v' :: u' :: l', hl, h =>
    have : ¬ ((v' :: u' :: l').toArray.size = 1) := by simp
    rw [dif_neg this]
    refine .tuple _ _ (by simpa using hl.symm) (fun i hi => ?_)
    have hi' : i < (v :: u :: l).length := by simpa using hi
    obtain ⟨x, h1, h2⟩ := h i _ (List.getElem?_eq_getElem hi')
    obtain ⟨hx, he⟩ := List.getElem?_eq_some_iff.1 h1
    simp only [List.getElem_toArray]
    rw [he]; exact h2
  | [], _ :: _, hl, _ => simp at hl
  | _ :: _, [], hl, _ => simp at hl
  | [_], _ :: _ :: _, hl, _ => simp at hl
  | _ :: _ :: _, [_], hl, _ => simp at hl
/-- A function's contract, out of the walk of its body. -/
theorem acw_intro {P : Program} {w : World} {f : FuncId} {fn : Func} {c : Code} {m : Nat} {args : List Value} {pre post : List (Nat × Blk)} {v : Value}
    (hf : P.funcs[f]? = some fn) (hb : fn.body = some c) (hn : Nat.ble args.length fn.ntmps = true) (hpo : (post.all fun x => x.2.own) = true)
    (h : ∀ W pin, (∀ b, W b → ∃ ρ, jX ρ pre b) → AW ⟨w, W, fn.ntmps, m, pin, []⟩ P c (mkSt m (fF 0 args) pre) (EndQ P fn v post)) : ACw P w f m args pre v post := by
  intro ρ args' hl ha hp hlow hhigh
  have hle := Nat.le_of_ble_eq_true hn
  refine calls_of_wp hf hb ?_
  have hrel : Rel ⟨w, jX ρ pre, fn.ntmps, m, ρ, []⟩ ρ (mkSt m (fF 0 args) pre) { tmps := args' ++ Array.replicate (fn.ntmps - args'.size) undef, defers := [] } w := by
    have hdf : ∀ k b, base m k ≠ .live b := fun k b e => by unfold base at e; cases hh : Nat.blt k m <;> rw [hh] at e <;> cases e
    refine ⟨by simp; omega, rfl, fun t u hu => ?_, ⟨fun k hk => ?_, fun k b hk => ?_, ?_⟩, FrameOk.refl _ _, fun k b sp hk ho hsp => ?_, fun k hk => ?_⟩
    · obtain ⟨j, h1, h2⟩ := uR (vZ hu)
      obtain ⟨x, h3, h4⟩ := ha j u h2
      have : t = j := by omega
      subst this
      refine ⟨x, ?_, h4⟩
      obtain ⟨hj, _⟩ := Array.getElem?_eq_some_iff.1 h3
      rw [Array.getElem?_append_left hj]; exact h3
    · have hk2 : ofH (base m k) pre k = .fresh := hk
      refine hhigh k ?_
      rcases Nat.lt_or_ge k m with hlt | hge
      · exfalso
        by_cases hmem : k ∈ pre.map (·.1)
        · obtain ⟨b, hb'⟩ := xF (d := base m k) hmem
          rw [hb'] at hk2; cases hk2
        · rw [v7 hmem] at hk2
          unfold base at hk2; rw [show Nat.blt k m = true from Nat.ble_eq_true_of_le hlt] at hk2; cases hk2
      · exact hge
    · exact hp.live k b (jY (hdf k) hk)
    · intro k1 k2 b1 b2 sp1 sp2 hne h1 h2 ho nv e1 e2
      exact hp.apart k1 k2 b1 b2 sp1 sp2 hne (jY (hdf k1) h1) (jY (hdf k2) h2) ho nv e1 e2
    · exact .inl ⟨k, b, sp, jY (hdf k) hk, ho, hsp, rfl⟩
    · obtain ⟨sp, hs⟩ := hlow k hk
      exact ⟨sp, hs, hs⟩
  refine wp_mono (h (jX ρ pre) ρ (fun b hb => ⟨ρ, hb⟩) ρ _ w hrel) ?_
  rintro e a' w' ⟨ρ1, S1, ⟨he, vs, hvs, rfl, hpost⟩, hr⟩
  obtain ⟨vs', r1, r2, r3⟩ := bA (P := P) hr hvs
  have hres : (results fn a'.tmps).run P w' = .ok (if h : vs'.toArray.size = 1 then vs'.toArray[0] else .tuple vs'.toArray) w' := by
    rw [bZ]
    rw [show fn.results = fn.results.toList.toArray from rfl]
    simp only [Sem.run_bind]
    rw [List.mapM_toArray]
    simp only [Sem.run_map]
    rw [r1]
    rfl
  have fin : ∃ v', (results fn a'.tmps).run P w' = .ok v' w' ∧ ∃ v'' ρ', Ending.returned v' = .returned v'' ∧ VRel ρ' (fV vs) v'' ∧ (∀ k, k < m → ρ' k = ρ k) ∧ HOkL ρ' w' post ∧
      (∀ k b sp, m ≤ k → (k, b) ∈ post → ρ' k = some sp → w.heap.size ≤ sp.block ∨ jX ρ pre sp.block) ∧ FrameOk w (jX ρ pre) w' := by
    refine ⟨_, hres, _, ρ1, rfl, cQ r2 r3, fun k hk => ?_, ⟨fun k b hk => hr.heap.live k b (hpost.mem hk), fun k k' b b' sp sp' hne h1 h2 ho nv e1 e2 => ?_⟩, fun k b sp _ hk hsp => ?_, hr.frame⟩
    · obtain ⟨sp, p1, p2⟩ := hr.pin k hk
      have p1' : ρ k = some sp := p1
      rw [p1', p2]
    · exact hr.heap.apart k k' b b' sp sp' hne (hpost.mem h1) (hpost.mem h2) ho nv e1 e2
    · exact (hr.owned k b sp (hpost.mem hk) (List.all_eq_true.1 hpo (k, b) hk) hsp).symm
  rcases he with rfl | rfl
  · obtain ⟨v', h1, h2⟩ := fin
    exact ⟨hr.defers, v', h1, h2⟩
  · obtain ⟨v', h1, h2⟩ := fin
    exact ⟨hr.defers, v', h1, h2⟩
theorem ac_intro {P : Program} {f : FuncId} {fn : Func} {c : Code} {m : Nat} {args : List Value} {pre post : List (Nat × Blk)} {v : Value}
    (hf : P.funcs[f]? = some fn) (hb : fn.body = some c) (hn : Nat.ble args.length fn.ntmps = true) (hpo : (post.all fun x => x.2.own) = true)
    (h : ∀ w0 W pin, AW ⟨w0, W, fn.ntmps, m, pin, []⟩ P c (mkSt m (fF 0 args) pre) (EndQ P fn v post)) : AC P f m args pre v post :=
  fun ρ w args' => acw_intro (w := w) hf hb hn hpo (fun W pin _ => h w W pin) ρ args'
inductive RenV (σ : Nat → Nat) (p : Nat → Prop) : Value → Value → Prop
  | flat (v : Value) (h : Only (fun _ => False) v) : RenV σ p v v
  | ptr (k off : Nat) (h : p k) : RenV σ p (.pointer (some ⟨k, off, none⟩)) (.pointer (some ⟨σ k, off, none⟩))
  | slice (k off len c c' : Nat) (h : p k) : RenV σ p (.slice (some ⟨k, off, none⟩) len c) (.slice (some ⟨σ k, off, none⟩) len c')
  | agg (xs ys : Array Value) (h : xs.size = ys.size) (hv : ∀ i (hi : i < xs.size), RenV σ p xs[i] (ys[i]'(h ▸ hi))) : RenV σ p (.agg xs) (.agg ys)
  | tuple (xs ys : Array Value) (h : xs.size = ys.size) (hv : ∀ i (hi : i < xs.size), RenV σ p xs[i] (ys[i]'(h ▸ hi))) : RenV σ p (.tuple xs) (.tuple ys)
  | func (fn : Fn) (xs ys cs ds : Array Value) (h : xs.size = ys.size) (hv : ∀ i (hi : i < xs.size), RenV σ p xs[i] (ys[i]'(h ▸ hi))) (h' : cs.size = ds.size) (hv' : ∀ i (hi : i < cs.size), RenV σ p cs[i] (ds[i]'(h' ▸ hi))) : RenV σ p (.func fn xs cs) (.func fn ys ds)
theorem RenV.into {σ : Nat → Nat} {p : Nat → Prop} {ρ0 ρ : Ren} (hp : ∀ j, p j → ρ0 j = ρ (σ j)) {v0 v : Value} (h : RenV σ p v0 v) : ∀ {v' : Value}, VRel ρ v v' → VRel ρ0 v0 v' := by
  induction h with
  | flat v h => intro v' r; rw [r.eq_of_only h]; exact .of_only h
  | ptr k off h => intro v' r; cases r with | ptr _ _ sp hk => exact .ptr k off sp (by rw [hp k h]; exact hk)
  | slice k off len c c' h =>
    intro v' r
    cases r with
    | slice _ _ _ _ cap sp hk hc hs => exact .slice k off len c cap sp (by rw [hp k h]; exact hk) hc hs
    | slice0 _ _ _ A => exact .slice0 k off c A
  | agg xs ys e _ ih => intro v' r; cases r with | agg _ zs e' hv => exact .agg xs zs (e.trans e') (fun i hi => ih i hi (hv i (by omega)))
  | tuple xs ys e _ ih => intro v' r; cases r with | tuple _ zs e' hv => exact .tuple xs zs (e.trans e') (fun i hi => ih i hi (hv i (by omega)))
  | func fn xs ys cs ds e _ f _ ih ih' => intro v' r; cases r with | func _ _ zs _ us e' hv f' hv' => exact .func fn xs zs cs us (e.trans e') (fun i hi => ih i hi (hv i (by omega))) (f.trans f') (fun i hi => ih' i hi (hv' i (by omega)))
theorem RenV.out {σ : Nat → Nat} {p : Nat → Prop} {ρ0 ρ : Ren} (hp : ∀ j, p j → ρ0 j = ρ (σ j)) {v0 v : Value} (h : RenV σ p v0 v) : ∀ {v' : Value}, VRel ρ0 v0 v' → VRel ρ v v' := by
  induction h with
  | flat v h => intro v' r; rw [r.eq_of_only h]; exact .of_only h
  | ptr k off h => intro v' r; cases r with | ptr _ _ sp hk => exact .ptr _ off sp (by rw [← hp k h]; exact hk)
  | slice k off len c c' h =>
    intro v' r
    cases r with
    | slice _ _ _ _ cap sp hk hc hs => exact .slice _ off len c' cap sp (by rw [← hp k h]; exact hk) hc hs
    | slice0 _ _ _ A => exact .slice0 _ off c' A
  | agg xs ys e _ ih => intro v' r; cases r with | agg _ zs e' hv => exact .agg ys zs (e.symm.trans e') (fun i hi => ih i (by omega) (hv i (by omega)))
  | tuple xs ys e _ ih => intro v' r; cases r with | tuple _ zs e' hv => exact .tuple ys zs (e.symm.trans e') (fun i hi => ih i (by omega) (hv i (by omega)))
  | func fn xs ys cs ds e _ f _ ih ih' => intro v' r; cases r with | func _ _ zs _ us e' hv f' hv' => exact .func fn ys zs ds us (e.symm.trans e') (fun i hi => ih i (by omega) (hv i (by omega))) (f.symm.trans f') (fun i hi => ih' i (by omega) (hv' i (by omega)))
def RenL (σ : Nat → Nat) (p : Nat → Prop) (l0 l : List Value) : Prop := l0.length = l.length ∧ ∀ (j : Nat) (u x : Value), l0[j]? = some u → l[j]? = some x → RenV σ p u x
theorem RenL.flat {σ : Nat → Nat} {p : Nat → Prop} {l : List Value} (h : ∀ v, v ∈ l → Only (fun _ => False) v) : RenL σ p l l :=
  ⟨rfl, fun j u x hu hx => by rw [hu] at hx; cases hx; exact .flat u (h u (List.mem_of_getElem? hu))⟩
theorem RenL.nil {σ : Nat → Nat} {p : Nat → Prop} : RenL σ p [] [] := ⟨rfl, fun j u x hu _ => by simp at hu⟩
theorem RenL.cons {σ : Nat → Nat} {p : Nat → Prop} {u x : Value} {l0 l : List Value} (h : RenV σ p u x) (t : RenL σ p l0 l) : RenL σ p (u :: l0) (x :: l) :=
  ⟨by simp [t.1], fun j a b ha hb => by
    cases j with
    | zero => simp only [List.getElem?_cons_zero, Option.some.injEq] at ha hb; subst ha hb; exact h
    | succ j => simp only [List.getElem?_cons_succ] at ha hb; exact t.2 j a b ha hb⟩
structure RenB (σ : Nat → Nat) (p : Nat → Prop) (b0 b : Blk) : Prop where
  elem : b.elem = b0.elem
  own : b.own = b0.own
  step : b.step = b0.step
  cells : RenL σ p b0.cells b.cells
theorem RenB.void {σ : Nat → Nat} {p : Nat → Prop} {b0 b : Blk} (h : RenB σ p b0 b) : Void b0 ↔ Void b := by
  unfold Void
  have hl := h.cells.1
  rw [h.own]
  constructor
  · rintro ⟨a, c⟩; rw [c] at hl; exact ⟨a, List.length_eq_zero_iff.1 (by simpa using hl.symm)⟩
  · rintro ⟨a, c⟩; rw [c] at hl; exact ⟨a, List.length_eq_zero_iff.1 (by simpa using hl)⟩
theorem RenB.into {σ : Nat → Nat} {p : Nat → Prop} {ρ0 ρ : Ren} (hp : ∀ j, p j → ρ0 j = ρ (σ j)) {b0 b : Blk} (h : RenB σ p b0 b) {w : World} {sp : Spot} (k : jC ρ w sp b) : jC ρ0 w sp b0 := by
  have key : ∀ (i : Nat) (u : Value), b0.cells[i]? = some u → ∃ x, b.cells[i]? = some x ∧ RenV σ p u x := fun i u hu => by
    obtain ⟨hi, _⟩ := List.getElem?_eq_some_iff.1 hu
    have hi' : i < b.cells.length := by have := h.cells.1; omega
    exact ⟨_, List.getElem?_eq_getElem hi', h.cells.2 i u _ hu (List.getElem?_eq_getElem hi')⟩
  exact k.map h.elem.symm h.own.symm h.step.symm (by have := h.cells.1; omega) (fun i u hu => let ⟨x, e1, e2⟩ := key i u hu; ⟨x, e1, fun _ r => e2.into hp r⟩)
theorem RenB.out {σ : Nat → Nat} {p : Nat → Prop} {ρ0 ρ : Ren} (hp : ∀ j, p j → ρ0 j = ρ (σ j)) {b0 b : Blk} (h : RenB σ p b0 b) {w : World} {sp : Spot} (k : jC ρ0 w sp b0) : jC ρ w sp b := by
  have key : ∀ (i : Nat) (u : Value), b.cells[i]? = some u → ∃ x, b0.cells[i]? = some x ∧ RenV σ p x u := fun i u hu => by
    obtain ⟨hi, _⟩ := List.getElem?_eq_some_iff.1 hu
    have hi' : i < b0.cells.length := by have := h.cells.1; omega
    exact ⟨_, List.getElem?_eq_getElem hi', h.cells.2 i _ u (List.getElem?_eq_getElem hi') hu⟩
  exact k.map h.elem h.own h.step (by have := h.cells.1; omega) (fun i u hu => let ⟨x, e1, e2⟩ := key i u hu; ⟨x, e1, fun _ r => e2.out hp r⟩)
/-- Blocks of the callee (numbers j) and of the caller (numbers σ j), one by one. -/
def RenH (σ : Nat → Nat) (p : Nat → Prop) : List (Nat × Blk) → List (Nat × Blk) → Prop
  | [], [] => True
  | (j, b0) :: l0, (k, b) :: l => k = σ j ∧ RenB σ p b0 b ∧ RenH σ p l0 l
  | _, _ => False
theorem RenH.left {σ : Nat → Nat} {p : Nat → Prop} {l0 l : List (Nat × Blk)} (h : RenH σ p l0 l) {j : Nat} {b0 : Blk} (hm : (j, b0) ∈ l0) : ∃ b, (σ j, b) ∈ l ∧ RenB σ p b0 b := by
  induction l0 generalizing l with
  | nil => cases hm
  | cons x l0 ih =>
    cases l with
    | nil => exact h.elim
    | cons y l =>
      obtain ⟨e, hb, ht⟩ := h
      cases hm with
      | head => exact ⟨y.2, by rw [← e]; exact List.mem_cons_self, hb⟩
      | tail _ hm => obtain ⟨b, h1, h2⟩ := ih ht hm; exact ⟨b, List.mem_cons_of_mem _ h1, h2⟩
theorem RenH.right {σ : Nat → Nat} {p : Nat → Prop} {l0 l : List (Nat × Blk)} (h : RenH σ p l0 l) {k : Nat} {b : Blk} (hm : (k, b) ∈ l) : ∃ j b0, k = σ j ∧ (j, b0) ∈ l0 ∧ RenB σ p b0 b := by
  induction l generalizing l0 with
  | nil => cases hm
  | cons x l ih =>
    cases l0 with
    | nil => exact h.elim
    | cons y l0 =>
      obtain ⟨e, hb, ht⟩ := h
      cases hm with
      | head => exact ⟨y.1, y.2, e, List.mem_cons_self, hb⟩
      | tail _ hm => obtain ⟨j, b0, h0, h1, h2⟩ := ih ht hm; exact ⟨j, b0, h0, List.mem_cons_of_mem _ h1, h2⟩
def jA (pre post : List (Nat × Blk)) : List (Nat × Cell) := post.map (fun x => (x.1, .live x.2)) ++ (pre.filter (·.2.own)).map (fun x => (x.1, .gone))
theorem gX {pre post : List (Nat × Blk)} {k : Nat} : k ∈ (jA pre post).map (·.1) ↔ k ∈ post.map (·.1) ∨ ∃ b, (k, b) ∈ pre ∧ b.own = true := by
  simp only [jA, List.map_append, List.map_map, List.mem_append, List.mem_map, List.mem_filter, Function.comp]
  constructor
  · rintro (⟨x, h1, h2⟩ | ⟨x, ⟨h1, h3⟩, h2⟩)
    · exact .inl ⟨x, h1, h2⟩
    · exact .inr ⟨x.2, by rw [← h2]; exact h1, h3⟩
  · rintro (⟨x, h1, h2⟩ | ⟨b, h1, h2⟩)
    · exact .inl ⟨x, h1, h2⟩
    · exact .inr ⟨(k, b), ⟨h1, h2⟩, rfl⟩
theorem w5 {pre post : List (Nat × Blk)} {k : Nat} {b : Blk} (h : findW (jA pre post) k = some (.live b)) : (k, b) ∈ post := by
  have : (k, Cell.live b) ∈ jA pre post := by
    have hk : k ∈ (jA pre post).map (·.1) := by
      by_cases hm : k ∈ (jA pre post).map (·.1)
      · exact hm
      · rw [yE hm] at h; cases h
    obtain ⟨c, h1, h2⟩ := gK hk
    rw [h] at h1; cases h1; exact h2
  simp only [jA, List.mem_append, List.mem_map, List.mem_filter] at this
  rcases this with ⟨x, h1, h2⟩ | ⟨x, _, h2⟩
  · simp only [Prod.mk.injEq, Cell.live.injEq] at h2; obtain ⟨rfl, rfl⟩ := h2; exact h1
  · simp only [Prod.mk.injEq] at h2; cases h2.2
theorem w4 {pre post : List (Nat × Blk)} {k : Nat} {c : Cell} (h : findW (jA pre post) k = some c) : c ≠ .fresh := by
  have hk : k ∈ (jA pre post).map (·.1) := by
    by_cases hm : k ∈ (jA pre post).map (·.1)
    · exact hm
    · rw [yE hm] at h; cases h
  obtain ⟨c', h1, h2⟩ := gK hk
  rw [h] at h1; cases h1
  simp only [jA, List.mem_append, List.mem_map, List.mem_filter] at h2
  rcases h2 with ⟨x, _, h2⟩ | ⟨x, _, h2⟩ <;> (simp only [Prod.mk.injEq] at h2; rw [← h2.2]; intro e; cases e)
/-- The state of the caller behind a call. -/
theorem Rel.call {C : Ctx} {S : St} {ρ ρ' : Ren} {a : Act} {w w' : World} (h : Rel C ρ S a w) {pre post : List (Nat × Blk)} {new : List Nat}
    (hpre : AllH S pre) (hnew : ∀ k, k ∈ new → S.H k = .fresh ∧ k ∈ post.map (·.1)) (hpost : ∀ k, k ∈ post.map (·.1) → k ∈ new ∨ ∃ b, (k, b) ∈ pre ∧ b.own = true)
    (same : ∀ k, k ∉ new → ρ' k = ρ k) (hp : HOkL ρ' w' post)
    (hnb : ∀ k sp, k ∈ new → ρ' k = some sp → w.heap.size ≤ sp.block ∨ jX ρ pre sp.block) (hfr : FrameOk w (jX ρ pre) w') :
    Ren.le ρ ρ' ∧ Rel C ρ' ⟨S.T, wr (jA pre post) S.H⟩ a w' := by
  have hfresh : ∀ k, k ∈ new → ρ k = none := fun k hk => h.heap.fresh k (hnew k hk).1
  have hle : Ren.le ρ ρ' := fun k sp hk => by
    by_cases hn : k ∈ new
    · rw [hfresh k hn] at hk; cases hk
    · rw [same k hn]; exact hk
  -- what is not written
  have old : ∀ k b, findW (jA pre post) k = none → S.H k = .live b → ∀ sp, ρ' k = some sp → ρ k = some sp ∧ (¬ Void b → sp.block < w.heap.size ∧ ¬ jX ρ pre sp.block) := by
    intro k b hf hk sp hsp
    have hnk : k ∉ new := fun hn => by rw [(hnew k hn).1] at hk; cases hk
    have hsp' : ρ k = some sp := by rw [← same k hnk]; exact hsp
    obtain ⟨sp2, e1, e2⟩ := h.heap.live k b hk
    rw [hsp'] at e1; cases e1
    refine ⟨hsp', fun nv => ⟨e2.lt nv, ?_⟩⟩
    rintro ⟨k0, b0, sp0, hm, ho, h0, heq⟩
    have hne : k0 ≠ k := fun e => by
      subst e
      have : k0 ∈ (jA pre post).map (·.1) := gX.2 (.inr ⟨b0, hm, ho⟩)
      obtain ⟨c, hc, _⟩ := gK this
      rw [hc] at hf; cases hf
    exact h.heap.apart k0 k b0 b sp0 sp hne (hpre.mem hm) hk ho nv h0 hsp' heq
  have look : ∀ k b, wr (jA pre post) S.H k = .live b → (k, b) ∈ post ∨ (findW (jA pre post) k = none ∧ S.H k = .live b) := by
    intro k b hk
    unfold wr at hk
    cases hf : findW (jA pre post) k with
    | none => rw [hf] at hk; exact .inr ⟨rfl, hk⟩
    | some c => rw [hf] at hk; simp only [Option.getD_some] at hk; subst hk; exact .inl (w5 hf)
  have pkey : ∀ k b, (k, b) ∈ post → k ∈ post.map (·.1) := fun k b hk => List.mem_map.2 ⟨(k, b), hk, rfl⟩
  refine ⟨hle, h.size, h.defers, fun t v hv => ?_, ⟨fun k hk => ?_, fun k b hk => ?_, ?_⟩, ⟨hfr.os.trans h.frame.os, hfr.tape.trans h.frame.tape, hfr.output.trans h.frame.output, Nat.le_trans h.frame.size hfr.size, fun b hb hW => ?_⟩, fun k b sp hk ho hsp => ?_, fun k hk => ?_⟩
  · obtain ⟨v', h1, h2⟩ := h.temps t v hv
    exact ⟨v', h1, h2.mono hle⟩
  · have hk2 : wr (jA pre post) S.H k = .fresh := hk
    unfold wr at hk2
    cases hf : findW (jA pre post) k with
    | none =>
      rw [hf] at hk2
      have hnk : k ∉ new := fun hn => by
        obtain ⟨c, hc, _⟩ := gK (l := jA pre post) (gX.2 (.inl (hnew k hn).2))
        rw [hc] at hf; cases hf
      rw [same k hnk]; exact h.heap.fresh k hk2
    | some c => rw [hf] at hk2; simp only [Option.getD_some] at hk2; exact absurd hk2 (w4 hf)
  · rcases look k b hk with hm | ⟨hf, hk2⟩
    · exact hp.live k b hm
    · obtain ⟨sp, e1, e2⟩ := h.heap.live k b hk2
      have hnk : k ∉ new := fun hn => by rw [(hnew k hn).1] at hk2; cases hk2
      have hsp : ρ' k = some sp := by rw [same k hnk]; exact e1
      obtain ⟨_, h12⟩ := old k b hf hk2 sp hsp
      exact ⟨sp, hsp, (e2.mono hle).same (fun nv => hfr.block _ (h12 nv).1 (h12 nv).2)⟩
  · intro k1 k2 b1 b2 sp1 sp2 hne h1 h2 ho nv e1 e2
    -- one of the two is told by the callee, the other one is old
    have mix : ∀ k k' b b' sp sp', k ≠ k' → (k, b) ∈ post → findW (jA pre post) k' = none → S.H k' = .live b' → ¬ Void b' → ρ' k = some sp → ρ' k' = some sp' → sp.block ≠ sp'.block := by
      intro k k' b b' sp sp' hne hm hf hk' nv hsp hsp'
      obtain ⟨o1, o23⟩ := old k' b' hf hk' sp' hsp'
      obtain ⟨o2, o3⟩ := o23 nv
      by_cases hn : k ∈ new
      · rcases hnb k sp hn hsp with hx | hx
        · omega
        · intro e; rw [e] at hx; exact o3 hx
      · rcases hpost k (pkey k b hm) with hn' | ⟨b0, hb0, ho0⟩
        · exact absurd hn' hn
        · have : ρ k = some sp := by rw [← same k hn]; exact hsp
          exact h.heap.apart k k' b0 b' sp sp' hne (hpre.mem hb0) hk' ho0 nv this o1
    rcases look k1 b1 h1 with m1 | ⟨f1, g1⟩
    · rcases look k2 b2 h2 with m2 | ⟨f2, g2⟩
      · exact hp.apart k1 k2 b1 b2 sp1 sp2 hne m1 m2 ho nv e1 e2
      · exact mix k1 k2 b1 b2 sp1 sp2 hne m1 f2 g2 nv e1 e2
    · rcases look k2 b2 h2 with m2 | ⟨f2, g2⟩
      · exact Ne.symm (mix k2 k1 b2 b1 sp2 sp1 (Ne.symm hne) m2 f1 g1 (gZ ho) e2 e1)
      · exact h.heap.apart k1 k2 b1 b2 sp1 sp2 hne g1 g2 ho nv (old k1 b1 f1 g1 sp1 e1).1 (old k2 b2 f2 g2 sp2 e2).1
  · have hn : ¬ jX ρ pre b := by
      rintro ⟨k0, b0, sp0, hm, ho, h0, heq⟩
      rcases h.owned k0 b0 sp0 (hpre.mem hm) ho h0 with hw | hw
      · rw [heq] at hw; exact hW hw
      · omega
    rw [hfr.block b (by have := h.frame.size; omega) hn]; exact h.frame.block b hb hW
  · have viaOwn : jX ρ pre sp.block → C.W sp.block ∨ C.w0.heap.size ≤ sp.block := by
      rintro ⟨k0, b0, sp0, hm, ho0, h0, heq⟩
      rw [← heq]; exact h.owned k0 b0 sp0 (hpre.mem hm) ho0 h0
    rcases look k b hk with hm | ⟨hf, hk2⟩
    · by_cases hn : k ∈ new
      · rcases hnb k sp hn hsp with hx | hx
        · exact .inr (Nat.le_trans h.frame.size hx)
        · exact viaOwn hx
      · rcases hpost k (pkey k b hm) with hn' | ⟨b0, hb0, ho0⟩
        · exact absurd hn' hn
        · exact viaOwn ⟨k, b0, sp, hb0, ho0, by rw [← same k hn]; exact hsp, rfl⟩
    · exact h.owned k b sp hk2 ho (old k b hf hk2 sp hsp).1
  · obtain ⟨sp, p1, p2⟩ := h.pin k hk
    exact ⟨sp, p1, hle k sp p2⟩
def evs (S : St) : List Operand → Option (List Value)
  | [] => some []
  | x :: l => match ev S x, evs S l with
    | some v, some vs => some (v :: vs)
    | _, _ => none
theorem wT {C : Ctx} {ρ : Ren} {S : St} {a : Act} {w : World} (h : Rel C ρ S a w) : ∀ {l : List Operand} {vs : List Value}, evs S l = some vs →
    vs.length = (l.map a.eval).length ∧ ∀ (j : Nat) (u : Value), vs[j]? = some u → ∃ x, (l.map a.eval)[j]? = some x ∧ VRel ρ u x
  | [], vs, hv => by cases hv; exact ⟨rfl, fun j u hu => by simp at hu⟩
  | x :: l, vs, hv => by
    unfold evs at hv
    split at hv
    · rename_i v vs0 h1 h2
      cases hv
      obtain ⟨f1, f2⟩ := wT h h2
      refine ⟨by simp [f1], fun j u hu => ?_⟩
      cases j with
      | zero => simp only [List.getElem?_cons_zero, Option.some.injEq] at hu; subst hu; exact ⟨_, by simp, jM h h1⟩
      | succ j => simp only [List.getElem?_cons_succ] at hu; simpa using f2 j u hu
    · cases hv
theorem wD {S S' : St} {l : List Operand} (h : ∀ x, x ∈ l → ev S' x = ev S x) : evs S' l = evs S l := by
  induction l with
  | nil => rfl
  | cons x l ih => simp only [evs]; rw [h x List.mem_cons_self, ih (fun y hy => h y (List.mem_cons_of_mem _ hy))]
def wJ (P : Program) (g : FuncId) : Bool := match P.funcs[g]? with
  | some fn => !(fn.name == "runtime.NumGoroutine") && fn.body.isSome
  | none => false
theorem AllH.like {S S' : St} {L : List (Nat × Blk)} (h : AllH S L) (e : ∀ k, k ∈ L.map (·.1) → S'.H k = S.H k) : AllH S' L := by
  induction L with
  | nil => exact trivial
  | cons x l ih => exact ⟨by rw [e x.1 (by simp)]; exact h.1, ih h.2 (fun k hk => e k (by simp at hk ⊢; exact .inr hk))⟩
section
variable {C : Ctx} {P : Program} {ops : Array Oper} {i : Nat} {S : St}
/-- A call of a function with a contract. 'σ' turns the callee's numbers (below m: the blocks handed over; m to m + r - 1: the new ones) into the caller's. -/
theorem qEL {x : Operand} {ars : Array Operand} {ats : Array TypeId} {g m r : Nat} {firsts caps : Array Value} {vs args0 : List Value} {pre0 post0 pre post : List (Nat × Blk)} {v0 v : Value} (σ : Nat → Nat)
    (hs : qZ ops S i = some (.call ⟨.value x, ars, ats⟩, true)) (hf : ev S x = some (.func (.func g) firsts caps)) (hargs : evs S ars.toList = some vs) (hg : wJ P g = true)
    (ac : ∀ w, FrameOk C.w0 C.W w → ACw P w g m args0 pre0 v0 post0) (ha : RenL σ (· < m) args0 (firsts.toList ++ vs ++ caps.toList)) (hpre : RenH σ (· < m) pre0 pre) (hpreS : AllH S pre)
    (hlow : ∀ j, j < m → j ∈ pre0.map (·.1)) (hpm : ∀ j, j ∈ pre0.map (·.1) → j < m) (hinj : ∀ i j, i < m + r → j < m + r → σ i = σ j → i = j)
    (hnew : ∀ j, m ≤ j → j < m + r → S.H (σ j) = .fresh ∧ j ∈ post0.map (·.1)) (hpost : RenH σ (· < m + r) post0 post)
    (hpk : ∀ j, j ∈ post0.map (·.1) → j < m + r ∧ (j < m → ∃ b, (σ j, b) ∈ pre ∧ b.own = true)) (hv : RenV σ (· < m + r) v0 v) :
    Does C P ops i S ⟨pre.map (·.1) ++ (List.range' m r).map σ, v, jA pre post⟩ := by
  intro o ho hd S' ρ a w K Q hT hH hr hK
  obtain ⟨hop, hg0⟩ := y6 hs ho
  have hg' : guardOf ops S' o = some true := by rw [yD hT]; exact hg0
  have hw := vW hr hg'
  have hevx : ev S' x = some (.func (.func g) firsts caps) := by rw [x8 hT (by rw [hop]; simp [Op.operands, Call.operands])]; exact hf
  have hevs : evs S' ars.toList = some vs := by rw [wD (fun y hy => x8 hT (by rw [hop]; simp [Op.operands, Call.operands]; exact .inr (by simpa using hy)))]; exact hargs
  have hpreS' : AllH S' pre := hpreS.like (fun k hk => hH k (List.mem_append_left _ hk))
  have hnew' : ∀ j, m ≤ j → j < m + r → S'.H (σ j) = .fresh := fun j h1 h2 => by
    rw [hH (σ j) (List.mem_append_right _ (List.mem_map.2 ⟨j, by rw [List.mem_range'_1]; omega, rfl⟩))]; exact (hnew j h1 h2).1
  have hfx := jM hr hevx
  obtain ⟨ea1, ea2⟩ := wT hr hevs
  generalize hax : a.eval x = ax at hfx
  cases hfx with
  | func _ _ ys _ ds e1 v1 e2 v2 =>
    -- the machine's step
    unfold wpOp
    simp only [ho, hw, if_true]
    refine .inl ?_
    unfold Oper.wp
    have hex : (execOp a.eval o).run P w = .ok (.enter g ((ys ++ (ars.map a.eval)) ++ ds)) w := by
      unfold wJ at hg
      split at hg
      · rename_i fn hfn
        rw [Bool.and_eq_true] at hg
        have n1 : (fn.name == "runtime.NumGoroutine") = false := by simpa using hg.1
        have n2 : fn.body.isNone = false := by cases hb : fn.body with | none => rw [hb] at hg; simp at hg | some _ => rfl
        simp only [execOp, hop, resolve, hax, Deferred.ofValue, Sem.run_bind, Sem.run_pure, Result.andThen_ok, invoke, callFunc, run_program, hfn, n1, n2, Bool.false_eq_true, if_false]
      · cases hg
    rw [hex]
    simp only [Oper.upon]
    -- the callee's eyes
    let ρ0 : Ren := fun j => bif Nat.blt j m then ρ (σ j) else none
    have hρ0 : ∀ j, j < m → ρ0 j = ρ (σ j) := fun j hj => by simp only [ρ0, show Nat.blt j m = true from Nat.ble_eq_true_of_le hj, cond_true]
    have hall : (firsts.toList ++ vs ++ caps.toList).length = ((ys ++ ars.map a.eval) ++ ds).size ∧ ∀ (j : Nat) (u : Value), (firsts.toList ++ vs ++ caps.toList)[j]? = some u → ∃ z, ((ys ++ ars.map a.eval) ++ ds)[j]? = some z ∧ VRel ρ u z := by
      have pw : ∀ (xs zs : Array Value) (e : xs.size = zs.size) (_ : ∀ i (hi : i < xs.size), VRel ρ xs[i] (zs[i]'(e ▸ hi))), ∀ (j : Nat) (u : Value), xs.toList[j]? = some u → ∃ z, zs.toList[j]? = some z ∧ VRel ρ u z := by
        intro xs zs e hv j u hu
        simp only [Array.getElem?_toList] at hu ⊢
        obtain ⟨hj, he⟩ := Array.getElem?_eq_some_iff.1 hu
        exact ⟨zs[j]'(e ▸ hj), Array.getElem?_eq_getElem (e ▸ hj), by rw [← he]; exact hv j hj⟩
      have app : ∀ (l1 l2 m1 m2 : List Value), l1.length = m1.length → (∀ (j : Nat) (u : Value), l1[j]? = some u → ∃ z, m1[j]? = some z ∧ VRel ρ u z) →
          (∀ (j : Nat) (u : Value), l2[j]? = some u → ∃ z, m2[j]? = some z ∧ VRel ρ u z) → ∀ (j : Nat) (u : Value), (l1 ++ l2)[j]? = some u → ∃ z, (m1 ++ m2)[j]? = some z ∧ VRel ρ u z := by
        intro l1 l2 m1 m2 hl h1 h2 j u hu
        rcases Nat.lt_or_ge j l1.length with hlt | hge
        · rw [List.getElem?_append_left hlt] at hu
          rw [List.getElem?_append_left (by omega)]; exact h1 j u hu
        · rw [List.getElem?_append_right hge] at hu
          rw [List.getElem?_append_right (by omega), ← hl]; exact h2 _ u hu
      have ea2' : ∀ (j : Nat) (u : Value), vs[j]? = some u → ∃ z, (ars.map a.eval).toList[j]? = some z ∧ VRel ρ u z := fun j u hu => by simpa using ea2 j u hu
      refine ⟨by simp at ea1 ⊢; omega, fun j u hu => ?_⟩
      have := app (firsts.toList ++ vs) caps.toList ((ys ++ ars.map a.eval).toList) ds.toList (by simp at ea1 ⊢; omega)
        (by rw [Array.toList_append]; exact app firsts.toList vs ys.toList (ars.map a.eval).toList (by simpa using e1) (pw firsts ys e1 v1) ea2') (pw caps ds e2 v2) j u hu
      rw [← Array.getElem?_toList, Array.toList_append]; exact this
    have hcall := ac w hr.frame ρ0 ((ys ++ ars.map a.eval) ++ ds) (by rw [ha.1]; exact hall.1) (fun j u hu => by
        obtain ⟨hj, _⟩ := List.getElem?_eq_some_iff.1 hu
        have hj' : j < (firsts.toList ++ vs ++ caps.toList).length := by have := ha.1; omega
        obtain ⟨z, h1, h2⟩ := hall.2 j _ (List.getElem?_eq_getElem hj')
        exact ⟨z, h1, (ha.2 j u _ hu (List.getElem?_eq_getElem hj')).into (fun q hq => hρ0 q hq) h2⟩)
      ⟨fun j b0 hj => by
          obtain ⟨b, hm, hb⟩ := hpre.left hj
          obtain ⟨sp, h1, h2⟩ := hr.heap.live (σ j) b (hpreS'.mem hm)
          exact ⟨sp, by rw [hρ0 j (hpm j (List.mem_map.2 ⟨(j, b0), hj, rfl⟩))]; exact h1, hb.into (fun q hq => hρ0 q hq) h2⟩,
        fun j j' b0 b0' sp sp' hne hj hj' ho' nv h1 h2 => by
          obtain ⟨b, hm, hb⟩ := hpre.left hj
          obtain ⟨b', hm', hb'⟩ := hpre.left hj'
          have lj := hpm j (List.mem_map.2 ⟨(j, b0), hj, rfl⟩)
          have lj' := hpm j' (List.mem_map.2 ⟨(j', b0'), hj', rfl⟩)
          rw [hρ0 j lj] at h1
          rw [hρ0 j' lj'] at h2
          exact hr.heap.apart (σ j) (σ j') b b' sp sp' (fun e => hne (hinj j j' (by omega) (by omega) e)) (hpreS'.mem hm) (hpreS'.mem hm') (by rw [hb.own]; exact ho') (fun v => nv (hb'.void.2 v)) h1 h2⟩
      (fun j hj => by
        obtain ⟨x0, hx0, rfl⟩ := List.mem_map.1 (hlow j hj)
        obtain ⟨b, hm, _⟩ := hpre.left (j := x0.1) (b0 := x0.2) hx0
        obtain ⟨sp, h1, _⟩ := hr.heap.live (σ x0.1) b (hpreS'.mem hm)
        exact ⟨sp, by rw [hρ0 _ hj]; exact h1⟩)
      (fun j hj => by simp only [ρ0, show Nat.blt j m = false from by cases hb : Nat.blt j m with | false => rfl | true => have := gB hb; omega, cond_false])
    refine Calls.mono hcall ?_
    rintro e w' ⟨v', ρ1, rfl, hv', hsame, hpost', hnb, hfr⟩
    -- the caller's names behind the call
    let inv : Nat → Option Nat := fun k => (List.range' m r).find? (fun j => Nat.beq k (σ j))
    let ρ2 : Ren := fun k => match inv k with
      | some j => ρ1 j
      | none => ρ k
    have hinv : ∀ k j, inv k = some j → k = σ j ∧ m ≤ j ∧ j < m + r := fun k j h => by
      have h1 := List.find?_some h
      have h2 := List.mem_of_find?_eq_some h
      rw [List.mem_range'_1] at h2
      exact ⟨Nat.eq_of_beq_eq_true h1, h2.1, h2.2⟩
    have hinv2 : ∀ j, m ≤ j → j < m + r → inv (σ j) = some j := fun j h1 h2 => by
      cases hf : inv (σ j) with
      | none =>
        have := List.find?_eq_none.1 hf j (by rw [List.mem_range'_1]; omega)
        simp at this
      | some j' =>
        obtain ⟨e1, e2, e3⟩ := hinv _ _ hf
        rw [hinj j j' h2 e3 e1]
    have hsame2 : ∀ k, k ∉ (List.range' m r).map σ → ρ2 k = ρ k := fun k hk => by
      have : inv k = none := List.find?_eq_none.2 (fun j hj hb => hk (List.mem_map.2 ⟨j, hj, (Nat.eq_of_beq_eq_true hb).symm⟩))
      simp only [ρ2, this]
    have hlow2 : ∀ j, j < m → ρ2 (σ j) = ρ (σ j) := fun j hj => hsame2 _ (fun hm => by
      obtain ⟨j', h1, h2⟩ := List.mem_map.1 hm
      rw [List.mem_range'_1] at h1
      have := hinj j' j (by omega) (by omega) h2
      omega)
    have hρ1 : ∀ j, j < m + r → ρ1 j = ρ2 (σ j) := fun j hj => by
      rcases Nat.lt_or_ge j m with hlt | hge
      · rw [hsame j hlt, hρ0 j hlt, hlow2 j hlt]
      · simp only [ρ2, hinv2 j hge hj]
    have hkeyPost : ∀ k, k ∈ post.map (·.1) → ∃ j, k = σ j ∧ j ∈ post0.map (·.1) := fun k hk => by
      obtain ⟨x1, hx1, rfl⟩ := List.mem_map.1 hk
      obtain ⟨j, b0, h1, h2, _⟩ := hpost.right (k := x1.1) (b := x1.2) hx1
      exact ⟨j, h1, List.mem_map.2 ⟨(j, b0), h2, rfl⟩⟩
    have hOwn : ∀ b, jX ρ0 pre0 b → jX ρ pre b := by
      rintro b ⟨j, b0, sp, hm, ho', h1, h2⟩
      obtain ⟨b', hm', hb'⟩ := hpre.left hm
      exact ⟨σ j, b', sp, hm', by rw [hb'.own]; exact ho', by rw [← hρ0 j (hpm j (List.mem_map.2 ⟨(j, b0), hm, rfl⟩))]; exact h1, h2⟩
    have hOwn' : ∀ b, jX ρ pre b → jX ρ0 pre0 b := by
      rintro b ⟨k, b', sp, hm, ho', h1, h2⟩
      obtain ⟨j, b0, rfl, hm', hb'⟩ := hpre.right hm
      exact ⟨j, b0, sp, hm', by rw [← hb'.own]; exact ho', by rw [hρ0 j (hpm j (List.mem_map.2 ⟨(j, b0), hm', rfl⟩))]; exact h1, h2⟩
    obtain ⟨_, hrel⟩ := Rel.call (ρ' := ρ2) (w' := w') hr (pre := pre) (post := post) (new := (List.range' m r).map σ) hpreS'
      (fun k hk => by
        obtain ⟨j, h1, rfl⟩ := List.mem_map.1 hk
        rw [List.mem_range'_1] at h1
        refine ⟨hnew' j h1.1 h1.2, ?_⟩
        obtain ⟨x0, hx0, he⟩ := List.mem_map.1 (hnew j h1.1 h1.2).2
        obtain ⟨b, hm, _⟩ := hpost.left (j := x0.1) (b0 := x0.2) hx0
        rw [← he]
        exact List.mem_map.2 ⟨_, hm, rfl⟩)
      (fun k hk => by
        obtain ⟨j, rfl, hj⟩ := hkeyPost k hk
        obtain ⟨h1, h2⟩ := hpk j hj
        rcases Nat.lt_or_ge j m with hlt | hge
        · exact .inr (h2 hlt)
        · exact .inl (List.mem_map.2 ⟨j, by rw [List.mem_range'_1]; omega, rfl⟩))
      hsame2
      ⟨fun k b hk => by
          obtain ⟨j, b0, rfl, hm, hb⟩ := hpost.right hk
          obtain ⟨sp, h1, h2⟩ := hpost'.live j b0 hm
          have hj := (hpk j (List.mem_map.2 ⟨(j, b0), hm, rfl⟩)).1
          exact ⟨sp, by rw [← hρ1 j hj]; exact h1, hb.out (fun q hq => hρ1 q hq) h2⟩,
        fun k k' b b' sp sp' hne hk hk' ho' nv h1 h2 => by
          obtain ⟨j, b0, rfl, hm, hb⟩ := hpost.right hk
          obtain ⟨j', b0', rfl, hm', hb'⟩ := hpost.right hk'
          have hj := (hpk j (List.mem_map.2 ⟨(j, b0), hm, rfl⟩)).1
          have hj' := (hpk j' (List.mem_map.2 ⟨(j', b0'), hm', rfl⟩)).1
          rw [← hρ1 j hj] at h1
          rw [← hρ1 j' hj'] at h2
          exact hpost'.apart j j' b0 b0' sp sp' (fun e => hne (by rw [e])) hm hm' (by rw [← hb.own]; exact ho') (fun v => nv (hb'.void.1 v)) h1 h2⟩
      (fun k sp hk hsp => by
        obtain ⟨j, h1, rfl⟩ := List.mem_map.1 hk
        rw [List.mem_range'_1] at h1
        obtain ⟨x0, hx0, he⟩ := List.mem_map.1 (hnew j h1.1 h1.2).2
        subst he
        rw [← hρ1 x0.1 h1.2] at hsp
        exact (hnb x0.1 x0.2 sp h1.1 hx0 hsp).imp id (hOwn _))
      ⟨hfr.os, hfr.tape, hfr.output, hfr.size, fun b hb hW => hfr.block b hb (fun h => hW (hOwn b h))⟩
    exact hK ρ2 _ _ (Rel.put hrel hd (hv.out (fun q hq => hρ1 q hq) hv'))
theorem lF {x : Operand} {ars : Array Operand} {ats : Array TypeId} {g m r : Nat} {firsts caps : Array Value} {vs args0 : List Value} {pre0 post0 pre post : List (Nat × Blk)} {v0 v : Value} (σ : Nat → Nat)
    (hs : qZ ops S i = some (.call ⟨.value x, ars, ats⟩, true)) (hf : ev S x = some (.func (.func g) firsts caps)) (hargs : evs S ars.toList = some vs) (hg : wJ P g = true)
    (ac : AC P g m args0 pre0 v0 post0) (ha : RenL σ (· < m) args0 (firsts.toList ++ vs ++ caps.toList)) (hpre : RenH σ (· < m) pre0 pre) (hpreS : AllH S pre)
    (hlow : ∀ j, j < m → j ∈ pre0.map (·.1)) (hpm : ∀ j, j ∈ pre0.map (·.1) → j < m) (hinj : ∀ i j, i < m + r → j < m + r → σ i = σ j → i = j)
    (hnew : ∀ j, m ≤ j → j < m + r → S.H (σ j) = .fresh ∧ j ∈ post0.map (·.1)) (hpost : RenH σ (· < m + r) post0 post)
    (hpk : ∀ j, j ∈ post0.map (·.1) → j < m + r ∧ (j < m → ∃ b, (σ j, b) ∈ pre ∧ b.own = true)) (hv : RenV σ (· < m + r) v0 v) :
    Does C P ops i S ⟨pre.map (·.1) ++ (List.range' m r).map σ, v, jA pre post⟩ :=
  qEL σ hs hf hargs hg (fun w _ => ac.at w) ha hpre hpreS hlow hpm hinj hnew hpost hpk hv
end
def mK (fn : Func) : Code := fn.body.getD .skip
def regOps : Code → Array Oper
  | .region _ ops _ => ops
  | _ => #[]
section
variable {C : Ctx} {P : Program} {S S1 : St} {Q : Exit → St → Prop}
def AL (C : Ctx) (P : Program) (x : Code) (S : St) (Q : Exit → St → Prop) : Prop := ∀ ρ a w, Rel C ρ S a w → ∀ (b : Frame) (k : List Item) (cs : List Frame),
  ∃ e a' w', Lift C Q e a' w' ∧ Arrives P (lone (b.at a (.code x :: .inLoop x :: k)) cs w) b k cs e a' w'
theorem aw_rounds {c x : Code} (hc : c = .loop x) (h : AL C P x S Q) : AW C P c S Q := by
  subst hc
  intro ρ a w hr b k cs
  obtain ⟨e, a', w', h1, h2⟩ := h ρ a w hr b k cs
  exact ⟨e, a', w', h1, .of_steps (.one step_loop) h2⟩
theorem qE {x : Code} (h : AW C P x S (rA (fun S' => AL C P x S' Q) Q)) : AL C P x S Q := by
  intro ρ a w hr b k cs
  obtain ⟨e, a1, w1, ⟨ρ', S', h1, h2⟩, harr⟩ := h ρ a w hr b (.inLoop x :: k) cs
  cases e with
  | normal =>
    obtain ⟨e2, a2, w2, hq2, harr2⟩ := h1 ρ' a1 w1 h2 b k cs
    exact ⟨e2, a2, w2, hq2, .of_steps (Steps.trans harr (.one step_inLoop)) harr2⟩
  | exit id => exact ⟨_, a1, w1, ⟨ρ', S', h1, h2⟩, .pass (x := .inLoop x) rfl (fun _ _ => .inl (by simp)) harr⟩
  | goto l => exact ⟨_, a1, w1, ⟨ρ', S', h1, h2⟩, .pass (x := .inLoop x) rfl (fun _ _ => .inl (by simp)) harr⟩
  | ret => exact ⟨_, a1, w1, ⟨ρ', S', h1, h2⟩, .pass (x := .inLoop x) rfl (fun _ _ => .inl (by simp)) harr⟩
  | panic ch => exact ⟨_, a1, w1, ⟨ρ', S', h1, h2⟩, .pass (x := .inLoop x) rfl (fun _ _ => .inl (by simp)) harr⟩
  | outgrown => exact ⟨_, a1, w1, ⟨ρ', S', h1, h2⟩, .pass (x := .inLoop x) rfl (fun _ _ => .inl (by simp)) harr⟩
theorem wZ {x : Code} (hw : Weak C S S1) (h : AL C P x S1 Q) : AL C P x S Q := fun ρ a w hr => let ⟨ρ', h'⟩ := hw ρ a w hr; h ρ' a w h'
end
def qDK (P : Program) (t : TypeId) (cs : Array Value) (off : Nat) : Option Value := match P.info? t with
  | some i => match aggB P t with
    | some true => some (.agg (cs.extract off (off + i.size)))
    | some false => cs[off]?
    | none => none
  | none => none
theorem bD {P : Program} {t : TypeId} {cs : Array Value} {off : Nat} {v : Value} (h : qDK P t cs off = some v) (w : World) : (part t cs off).run P w = .ok v w := by
  unfold qDK at h
  split at h
  · rename_i inf hi
    split at h
    · rename_i ha; cases h
      simp only [part, Sem.run_bind, mT ha, Result.andThen_ok, Sem.run_ite, if_true, gQ hi, Sem.run_pure]
    · rename_i ha
      simp only [part, Sem.run_bind, mT ha, Result.andThen_ok, Sem.run_ite, Bool.false_eq_true, if_false, h, Sem.run_pure]
    · cases h
  · cases h
def eqT (P : Program) : Nat → TypeId → Value → Value → Option Bool
  | 0, _, _, _ => none
  | d + 1, t, x, y => match P.underlying t with
    | some .bool => match x, y with
      | .bool a, .bool b => some (a == b)
      | _, _ => none
    | some (.int _) => match x, y with
      | .int k a, .int k' b => match decEq k k' with
        | isTrue _ => some (a == b)
        | isFalse _ => none
      | _, _ => none
    | some .string => match x, y with
      | .string a, .string b => some (a.toList == b.toList)
      | _, _ => none
    | some (.struct fs) => match x, y with
      | .agg xs, .agg ys => bif P.stoodInHeld t then none else fs.toList.foldr (fun f r => match r, qDK P f.type xs f.offset, qDK P f.type ys f.offset with
          | some r, some a, some b => match eqT P d f.type a b with
            | some e => bif f.name == "_" then none else some (e && r)
            | none => none
          | _, _, _ => none) (some true)
      | _, _ => none
    | some (.array n e) => match x, y, P.info? e with
      | .agg xs, .agg ys, some i => (List.range n).foldr (fun j r => match r, qDK P e xs (j * i.size), qDK P e ys (j * i.size) with
          | some r, some a, some b => match eqT P d e a b with
            | some q => some (q && r)
            | none => none
          | _, _, _ => none) (some true)
      | _, _, _ => none
    | _ => none
theorem nX {P : Program} : ∀ (d : Nat) (t : TypeId) (x y : Value) (b : Bool), eqT P d t x y = some b → ∀ w, (Op.equalIn d t x y).run P w = .ok b w
  | 0, _, _, _, _, h, _ => by cases h
  | d + 1, t, x, y, b, h, w => by
    unfold eqT at h
    split at h
    · rename_i hu
      split at h
      · cases h; exact run_equalIn_bool' w d t _ _ hu
      · cases h
    · rename_i k' hu
      split at h
      · rename_i k a k2 c
        split at h
        · rename_i e _; cases h; subst e; exact run_equalIn_int w d t _ _ _ _ hu
        · cases h
      · cases h
    · rename_i hu
      split at h
      · cases h; exact run_equalIn_string w d t _ _ hu
      · cases h
    · rename_i fs hu
      split at h
      · rename_i xs ys
        cases hp : P.stoodInHeld t with
        | true => rw [hp] at h; cases h
        | false =>
          rw [hp] at h
          simp only [cond_false] at h
          have hf : P.fieldsOf t = fs := by simp [Program.fieldsOf, hu]
          rw [run_equalIn_struct w d t xs ys (by rw [hf]; exact hu) hp, hf]
          clear hu hf hp
          generalize fs.toList = l at h
          induction l generalizing b with
          | nil => cases h; simp [Op.eqFields]
          | cons f l ih =>
            simp only [List.foldr_cons] at h
            split at h
            · rename_i r a c hr ha hc
              split at h
              · rename_i e he
                cases hn : (f.name == "_") with
                | true => rw [hn] at h; cases h
                | false =>
                  rw [hn] at h
                  simp only [cond_false, Option.some.injEq] at h
                  have hn' : f.name ≠ "_" := by simpa using hn
                  have h1 := ih r hr
                  have h2 := nX d f.type a c e he w
                  simp only [Op.eqFields, if_pos hn', Sem.run_bind, bD ha, bD hc, h2, Result.andThen_ok]
                  subst h
                  cases e
                  · simp
                  · simpa using h1
              · cases h
            · cases h
      · cases h
    · rename_i n e hu
      split at h
      · rename_i xs ys i hi
        rw [run_equalIn_array w d xs ys hu hi]
        have hc : P.cellsOf e = i.size := by simp [Program.cellsOf, hi]
        rw [hc]
        generalize List.range n = l at h
        induction l generalizing b with
        | nil => cases h; simp [Op.eqItems]
        | cons j l ih =>
          simp only [List.foldr_cons] at h
          split at h
          · rename_i r a c hr ha hc
            split at h
            · rename_i q he
              simp only [Option.some.injEq] at h
              have h1 := ih r hr
              have h2 := nX d e a c q he w
              simp only [Op.eqItems, Sem.run_bind, bD ha, bD hc, h2, Result.andThen_ok]
              subst h
              cases q
              · simp
              · simpa using h1
            · cases h
          · cases h
      · cases h
    · cases h
section
variable {C : Ctx} {P : Program} {ops : Array Oper} {i : Nat} {S : St}
theorem jT {r : List Nat} {v v' : Value} {ws : List (Nat × Cell)} (h : Does C P ops i S ⟨r, v, ws⟩) (e : v = v') : Does C P ops i S ⟨r, v', ws⟩ := e ▸ h
theorem uF {r : List Nat} {b b' : Bool} {ws : List (Nat × Cell)} (h : Does C P ops i S ⟨r, .bool b, ws⟩) (e : b = b') : Does C P ops i S ⟨r, .bool b', ws⟩ := e ▸ h
theorem wE {r : List Nat} {k : IntKind} {n n' : Int} {ws : List (Nat × Cell)} (h : Does C P ops i S ⟨r, .int k n, ws⟩) (e : n = n') : Does C P ops i S ⟨r, .int k n', ws⟩ := e ▸ h
theorem does_eql {t t2 : TypeId} {x y : Operand} {xs ys : Array Value} {b : Bool} (hs : qZ ops S i = some (.binOp .eql t x y t2, true)) (hx : ev S x = some (.agg xs)) (hy : ev S y = some (.agg ys))
    (fx : flatB (.agg xs) = true) (fy : flatB (.agg ys) = true) (hg : P.eqGuardType P.depth t = false) (hq : eqT P 10000 t (.agg xs) (.agg ys) = some b) : Does C P ops i S ⟨[], .bool b, []⟩ :=
  .of_run hs fun o ho S' ρ a w hT _ hr => by
    have h1 := (jM hr (by rw [hT x (by simp [Op.operands])]; exact hx)).eq_of_only (qT fx)
    have h2 := (jM hr (by rw [hT y (by simp [Op.operands])]; exact hy)).eq_of_only (qT fy)
    refine ⟨_, w, ρ, .bool b, ?_, .inl rfl, .bool b, hr⟩
    simp only [execOp, ho, h1, h2, Sem.run_bind, run_eqGuard_agg w .eql t x y xs ys hg, Result.andThen_ok, run_eql_struct, nX 10000 t _ _ b hq, Sem.run_pure]
theorem does_neq {t t2 : TypeId} {x y : Operand} {xs ys : Array Value} {b : Bool} (hs : qZ ops S i = some (.binOp .neq t x y t2, true)) (hx : ev S x = some (.agg xs)) (hy : ev S y = some (.agg ys))
    (fx : flatB (.agg xs) = true) (fy : flatB (.agg ys) = true) (hg : P.eqGuardType P.depth t = false) (hq : eqT P 10000 t (.agg xs) (.agg ys) = some b) : Does C P ops i S ⟨[], .bool (!b), []⟩ :=
  .of_run hs fun o ho S' ρ a w hT _ hr => by
    have h1 := (jM hr (by rw [hT x (by simp [Op.operands])]; exact hx)).eq_of_only (qT fx)
    have h2 := (jM hr (by rw [hT y (by simp [Op.operands])]; exact hy)).eq_of_only (qT fy)
    refine ⟨_, w, ρ, .bool (!b), ?_, .inl rfl, .bool _, hr⟩
    simp only [execOp, ho, h1, h2, Sem.run_bind, run_eqGuard_agg w .neq t x y xs ys hg, Result.andThen_ok, run_neq_struct, nX 10000 t _ _ b hq, Sem.run_pure]
theorem does_len {x : Operand} {t : TypeId} {k off n c : Nat} (hs : qZ ops S i = some (.call ⟨.builtin .len, #[x], #[t]⟩, true)) (hx : ev S x = some (.slice (some ⟨k, off, none⟩) n c))
    (ht : slcB P t = true) : Does C P ops i S ⟨[], .int .i64 n, []⟩ :=
  .of_run hs fun o ho S' ρ a w hT _ hr => by
    have h1 := jM hr (by rw [hT x (by simp [Op.operands, Call.operands])]; exact hx)
    generalize hax : a.eval x = ax at h1
    unfold slcB at ht
    split at ht
    · rename_i e hu
      refine ⟨_, w, ρ, .int .i64 n, ?_, .inl rfl, .int _ _, hr⟩
      cases h1 <;> simp [execOp, ho, resolve, hax, invoke, builtin, Builtin.len_, run_underlying hu, goInt]
    · cases ht
theorem eE {x : Operand} {t : TypeId} (hs : qZ ops S i = some (.call ⟨.builtin .len, #[x], #[t]⟩, true)) (hx : ev S x = some (.slice none 0 0))
    (ht : slcB P t = true) : Does C P ops i S ⟨[], .int .i64 0, []⟩ :=
  .of_run hs fun o ho S' ρ a w hT _ hr => by
    have h1 := jM hr (by rw [hT x (by simp [Op.operands, Call.operands])]; exact hx)
    generalize hax : a.eval x = ax at h1
    unfold slcB at ht
    split at ht
    · rename_i e hu
      refine ⟨_, w, ρ, .int .i64 0, ?_, .inl rfl, .int _ _, hr⟩
      cases h1; simp [execOp, ho, resolve, hax, invoke, builtin, Builtin.len_, run_underlying hu, goInt]
    · cases ht
/-- x[l:h], both within the length. -/
def mJ (d : Nat) (S : St) : Option Operand → Option Int
  | none => some d
  | some x => match ev S x with
    | some (.int _ n) => some n
    | _ => none
theorem gP {w : World} {kd : IntKind} {l : Int} {y : Nat} {code : BoundsCode} (h0 : 0 ≤ l) (h1 : l ≤ y) : (Instr.sliceBound (.int kd l) y code).run P w = .ok l.toNat w := by
  unfold Instr.sliceBound
  simp only [asIntOf, Sem.run_bind, Sem.run_pure, Result.andThen_ok, Sem.run_ite, if_pos (And.intro h0 h1)]
theorem qF7 {w : World} {n cap : Nat} {lo hi : Option Value} {l h : Int} (hlo : (lo = none ∧ l = 0) ∨ ∃ kd, lo = some (.int kd l)) (hhi : (hi = none ∧ h = n) ∨ ∃ kd, hi = some (.int kd h))
    (h0 : 0 ≤ l) (h1 : l ≤ h) (h2 : h ≤ n) (hc : n ≤ cap) : (Instr.sliceBounds true n cap lo hi none).run P w = .ok (l.toNat, h.toNat, cap) w := by
  unfold Instr.sliceBounds
  rcases hlo with ⟨rfl, rfl⟩ | ⟨kd, rfl⟩ <;> rcases hhi with ⟨rfl, rfl⟩ | ⟨kd', rfl⟩
  · simp
  · simp only [Sem.run_bind, Sem.run_pure, Result.andThen_ok, gP (P := P) (w := w) (show 0 ≤ h by omega) (show h ≤ (cap : Int) by omega)]; rfl
  · simp only [Sem.run_bind, Sem.run_pure, Result.andThen_ok, gP (P := P) (w := w) h0 h1]; simp
  · simp only [Sem.run_bind, Sem.run_pure, Result.andThen_ok, gP (P := P) (w := w) (show 0 ≤ h by omega) (show h ≤ (cap : Int) by omega)]
    rw [gP (P := P) (w := w) h0 (show l ≤ (h.toNat : Int) by omega)]; rfl
theorem jN {t : TypeId} {x : Operand} {lo hi : Option Operand} {k off n c z : Nat} {l h : Int} {m : Nat} {b : Blk} (hs : qZ ops S i = some (.slice t x lo hi none, true))
    (hx : ev S x = some (.slice (some ⟨k, off, none⟩) n c)) (ht : slcB P t = true) (hz : gA P t = some z) (hlo : mJ 0 S lo = some l) (hhi : mJ n S hi = some h)
    (hH : S.H k = .live b) (hst : b.step = z) (h0 : 0 ≤ l) (h1 : l ≤ h) (h2 : h ≤ n) (hm : (m : Int) = h - l) : Does C P ops i S ⟨[k], .slice (some ⟨k, off + l.toNat * z, none⟩) m 0, []⟩ :=
  .of_run hs fun o ho S' ρ a w hT hH' hr => by
    have hrx := jM hr (by rw [hT x (by simp [Op.operands])]; exact hx)
    generalize hax : a.eval x = ax at hrx
    have bnd : ∀ (d : Nat) (x' : Operand) (q : Int), (x' ∈ (Op.slice t x lo hi none).operands.toList) → mJ d S (some x') = some q → ∃ kd, a.eval x' = .int kd q := fun d x' q hm e => by
      simp only [mJ] at e
      cases hev : ev S x' with
      | none => rw [hev] at e; cases e
      | some u =>
        rw [hev] at e
        cases u <;> simp at e
        subst e
        have := jM hr (v := .int _ _) (by rw [hT x' hm]; exact hev)
        generalize a.eval x' = q at this
        cases this; exact ⟨_, rfl⟩
    have lo1 : (lo.map a.eval = none ∧ l = 0) ∨ ∃ kd, lo.map a.eval = some (.int kd l) := by
      cases lo with
      | none => simp only [mJ, Option.some.injEq] at hlo; exact .inl ⟨rfl, by omega⟩
      | some x' => obtain ⟨kd, e⟩ := bnd 0 x' l (by simp [Op.operands]) hlo; exact .inr ⟨kd, by simp [e]⟩
    have hi1 : (hi.map a.eval = none ∧ h = n) ∨ ∃ kd, hi.map a.eval = some (.int kd h) := by
      cases hi with
      | none => simp only [mJ, Option.some.injEq] at hhi; exact .inl ⟨rfl, hhi.symm⟩
      | some x' => obtain ⟨kd, e⟩ := bnd n x' h (by simp [Op.operands]) hhi; exact .inr ⟨kd, by simp [e]⟩
    unfold slcB at ht
    split at ht
    · rename_i e hu
      unfold gA at hz
      rw [hu] at hz
      simp only [Option.map_eq_some_iff] at hz
      obtain ⟨inf, hinf, rfl⟩ := hz
      have run : ∀ (A : Option Addr) (cap : Nat), n ≤ cap → ax = .slice A n cap → (execOp a.eval o).run P w = .ok (.value (.slice (if cap = l.toNat then A else A.map (·.add (l.toNat * inf.size))) (h.toNat - l.toNat) (cap - l.toNat))) w := by
        intro A cap hcap he
        simp only [execOp, ho, hax, he, Instr.sliceAt, Sem.run_bind, run_underlying hu, Result.andThen_ok, Instr.slice, Option.map_none, qF7 (P := P) (w := w) lo1 hi1 h0 h1 h2 hcap, gQ hinf, Sem.run_pure]
      have hm' : h.toNat - l.toNat = m := by omega
      rw [hm'] at run
      cases hrx with
      | slice _ _ _ _ cap sp hk hc hss =>
        have hrun := run (some ⟨sp.block, sp.off + off, none⟩) cap hc rfl
        by_cases hcl : cap = l.toNat
        · rw [if_pos hcl] at hrun
          have m0 : m = 0 := by omega
          subst m0
          refine ⟨_, w, ρ, _, hrun, .inl rfl, ?_, hr⟩
          rw [show cap - l.toNat = 0 by omega]
          exact .slice0 k _ 0 _
        · rw [if_neg hcl] at hrun
          refine ⟨_, w, ρ, _, hrun, .inl rfl, ?_, hr⟩
          simp only [Option.map_some, add_at, Nat.add_assoc]
          obtain ⟨sp', e1, e2⟩ := hr.heap.live k b (by rw [hH' k (by simp)]; exact hH)
          rw [hk] at e1; cases e1
          have est : sp.step = inf.size := by rw [e2.1, hst]
          refine .slice k (off + l.toNat * inf.size) m 0 (cap - l.toNat) sp hk (by omega) ?_
          rw [est] at hss ⊢
          have : l.toNat * inf.size + (cap - l.toNat) * inf.size = cap * inf.size := by rw [← Nat.add_mul]; congr 1; omega
          omega
      | slice0 _ _ _ A =>
        have hrun := run A 0 (Nat.le_refl _) rfl
        have l0 : l.toNat = 0 := by omega
        have m0 : m = 0 := by omega
        subst m0
        rw [l0] at hrun
        simp only [if_true, Nat.sub_zero] at hrun
        exact ⟨_, w, ρ, _, hrun, .inl rfl, .slice0 k _ 0 _, hr⟩
    · cases ht
end
end Go.Proofs.Ytadifmimefmcnaa.Am
