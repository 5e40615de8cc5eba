import Derived.Orders
import Derived.Below
import Derived.Deep.Draws
import Derived.Laws.Sem
import Derived.KernelRfl
namespace Go.Proofs.Ytigllakcfdoagaa.Am
open Go

/-! ### 1. Values, spots, blocks -/
def upd {α : Type} (f : Nat → α) (k : Nat) (v : α) : Nat → α := fun n => bif Nat.beq n k then v else f n
theorem upd_self {α : Type} (f : Nat → α) (k : Nat) (v : α) : upd f k v k = v := by simp [upd]
theorem upd_ne {α : Type} (f : Nat → α) {k n : Nat} (v : α) (h : n ≠ k) : upd f k v n = f n := by
  have : Nat.beq n k = false := by
    cases hb : Nat.beq n k with
    | false => rfl
    | true => exact absurd (Nat.eq_of_beq_eq_true hb) h
  simp [upd, this]

/-- Where an abstract block lies. -/
structure Spot where
  block : Nat
  off : Nat
  size : Nat
  step : Nat
abbrev Ren := Nat → Option Spot
def Ren.le (ρ ρ' : Ren) : Prop := ∀ k sp, ρ k = some sp → ρ' k = some sp
theorem Ren.le_refl (ρ : Ren) : Ren.le ρ ρ := fun _ _ h => h
theorem Ren.le_trans {a b c : Ren} (h : Ren.le a b) (k : Ren.le b c) : Ren.le a c := fun x sp hx => k x sp (h x sp hx)
theorem Ren.le_upd {ρ : Ren} {k : Nat} (sp : Spot) (h : ρ k = none) : Ren.le ρ (upd ρ k (some sp)) := fun x s hx => by
  by_cases e : x = k
  · subst e; rw [h] at hx; cases hx
  · rw [upd_ne _ _ e]; exact hx

/-- An abstract value (addresses are names of blocks) and the machine's. -/
inductive VRel (ρ : Ren) : Value → Value → Prop
  | bool (b : Bool) : VRel ρ (.bool b) (.bool b)
  | int (k : IntKind) (n : Int) : VRel ρ (.int k n) (.int k n)
  | string (s : ByteArray) : VRel ρ (.string s) (.string s)
  | ptr (k off : Nat) (sp : Spot) (h : ρ k = some sp) : VRel ρ (.pointer (some ⟨k, off, none⟩)) (.pointer (some ⟨sp.block, sp.off + off, none⟩))
  | nilPtr : VRel ρ (.pointer none) (.pointer none)
  | nilFunc : VRel ρ .nilFunc .nilFunc
  | nilIface : VRel ρ .nilIface .nilIface
  | nilSlice : VRel ρ (.slice none 0 0) (.slice none 0 0)
  | slice (k off len c cap : Nat) (sp : Spot) (h : ρ k = some sp) (hc : len ≤ cap) (hs : off + cap * sp.step ≤ sp.size) :
      VRel ρ (.slice (some ⟨k, off, none⟩) len c) (.slice (some ⟨sp.block, sp.off + off, none⟩) len cap)
  | slice0 (k off c : Nat) (A : Option Addr) : VRel ρ (.slice (some ⟨k, off, none⟩) 0 c) (.slice A 0 0)
  | func (fn : Fn) (xs ys cs ds : Array Value) (h : xs.size = ys.size) (hv : ∀ i (hi : i < xs.size), VRel ρ xs[i] (ys[i]'(h ▸ hi)))
      (h' : cs.size = ds.size) (hv' : ∀ i (hi : i < cs.size), VRel ρ cs[i] (ds[i]'(h' ▸ hi))) : VRel ρ (.func fn xs cs) (.func fn ys ds)
  | agg (xs ys : Array Value) (h : xs.size = ys.size) (hv : ∀ i (hi : i < xs.size), VRel ρ xs[i] (ys[i]'(h ▸ hi))) : VRel ρ (.agg xs) (.agg ys)
  | tuple (xs ys : Array Value) (h : xs.size = ys.size) (hv : ∀ i (hi : i < xs.size), VRel ρ xs[i] (ys[i]'(h ▸ hi))) : VRel ρ (.tuple xs) (.tuple ys)

theorem VRel.mono {ρ ρ' : Ren} (h : Ren.le ρ ρ') {v v' : Value} (r : VRel ρ v v') : VRel ρ' v v' := by
  induction r with
  | bool b => exact .bool b
  | int k n => exact .int k n
  | string s => exact .string s
  | ptr k off sp hk => exact .ptr k off sp (h _ _ hk)
  | nilPtr => exact .nilPtr
  | nilFunc => exact .nilFunc
  | nilIface => exact .nilIface
  | nilSlice => exact .nilSlice
  | slice k off len c cap sp hk hc hs => exact .slice k off len c cap sp (h _ _ hk) hc hs
  | slice0 k off c A => exact .slice0 k off c A
  | func fn xs ys cs ds e _ e' _ ih ih' => exact .func fn xs ys cs ds e ih e' ih'
  | agg xs ys e _ ih => exact .agg xs ys e ih
  | tuple xs ys e _ ih => exact .tuple xs ys e ih

/-- All names in a value meet p. -/
inductive Only (p : Nat → Prop) : Value → Prop
  | bool (b : Bool) : Only p (.bool b)
  | int (k : IntKind) (n : Int) : Only p (.int k n)
  | string (s : ByteArray) : Only p (.string s)
  | ptr (k off : Nat) (h : p k) : Only p (.pointer (some ⟨k, off, none⟩))
  | nilPtr : Only p (.pointer none)
  | nilFunc : Only p .nilFunc
  | nilIface : Only p .nilIface
  | nilSlice : Only p (.slice none 0 0)
  | slice (k off len c : Nat) (h : p k) : Only p (.slice (some ⟨k, off, none⟩) len c)
  | func (fn : Fn) (xs cs : Array Value) (hv : ∀ i (hi : i < xs.size), Only p xs[i]) (hv' : ∀ i (hi : i < cs.size), Only p cs[i]) : Only p (.func fn xs cs)
  | agg (xs : Array Value) (hv : ∀ i (hi : i < xs.size), Only p xs[i]) : Only p (.agg xs)
  | tuple (xs : Array Value) (hv : ∀ i (hi : i < xs.size), Only p xs[i]) : Only p (.tuple xs)

theorem VRel.congr {ρ ρ' : Ren} {p : Nat → Prop} {v v' : Value} (r : VRel ρ v v') (o : Only p v) (h : ∀ k, p k → ρ k = ρ' k) : VRel ρ' v v' := by
  induction r with
  | bool b => exact .bool b
  | int k n => exact .int k n
  | string s => exact .string s
  | ptr k off sp hk => cases o with | ptr _ _ hp => exact .ptr k off sp (h k hp ▸ hk)
  | nilPtr => exact .nilPtr
  | nilFunc => exact .nilFunc
  | nilIface => exact .nilIface
  | nilSlice => exact .nilSlice
  | slice k off len c cap sp hk hc hs => cases o with | slice _ _ _ _ hp => exact .slice k off len c cap sp (h k hp ▸ hk) hc hs
  | slice0 k off c A => exact .slice0 k off c A
  | func fn xs ys cs ds e _ e' _ ih ih' => cases o with | func _ _ _ a b => exact .func fn xs ys cs ds e (fun i hi => ih i hi (a i hi)) e' (fun i hi => ih' i hi (b i hi))
  | agg xs ys e _ ih => cases o with | agg _ a => exact .agg xs ys e (fun i hi => ih i hi (a i hi))
  | tuple xs ys e _ ih => cases o with | tuple _ a => exact .tuple xs ys e (fun i hi => ih i hi (a i hi))

theorem Only.mono {p q : Nat → Prop} (h : ∀ k, p k → q k) {v : Value} (o : Only p v) : Only q v := by
  induction o with
  | bool b => exact .bool b
  | int k n => exact .int k n
  | string s => exact .string s
  | ptr k off hk => exact .ptr k off (h _ hk)
  | nilPtr => exact .nilPtr
  | nilFunc => exact .nilFunc
  | nilIface => exact .nilIface
  | nilSlice => exact .nilSlice
  | slice k off len c hk => exact .slice k off len c (h _ hk)
  | func fn xs cs _ _ ih ih' => exact .func fn xs cs ih ih'
  | agg xs _ ih => exact .agg xs ih
  | tuple xs _ ih => exact .tuple xs ih

structure Blk where
  cells : List Value
  elem : TypeId
  own : Bool
  step : Nat
inductive Cell where
  | fresh
  | gone
  | live (b : Blk)
structure St where
  T : Nat → Option Value
  H : Nat → Cell

def BlkOk (ρ : Ren) (w : World) (sp : Spot) (b : Blk) : Prop := sp.step = b.step ∧
  if b.own = true then ∃ c : Array Value, w.heap[sp.block]? = some (.cells c b.elem (0, 0)) ∧ sp.off + sp.size = c.size ∧ b.cells.length ≤ sp.size ∧
      ∀ (i : Nat) (u : Value), b.cells[i]? = some u → ∃ v, c[sp.off + i]? = some v ∧ VRel ρ u v
  else (b.cells = [] ∨ sp.block < w.heap.size) ∧ ∀ (i : Nat) (u : Value), b.cells[i]? = some u → ∃ v, w.cell? ⟨sp.block, sp.off + i, none⟩ = some v ∧ VRel ρ u v
/-- A block that is only read and has no cells. -/
def Void (b : Blk) : Prop := b.own = false ∧ b.cells = []
theorem not_void {b : Blk} (h : b.own = true) : ¬ Void b := fun v => by rw [v.1] at h; cases h

theorem BlkOk.own {ρ : Ren} {w : World} {sp : Spot} {b : Blk} (h : b.own = true) : BlkOk ρ w sp b ↔ sp.step = b.step ∧ ∃ c : Array Value, w.heap[sp.block]? = some (.cells c b.elem (0, 0)) ∧ sp.off + sp.size = c.size ∧ b.cells.length ≤ sp.size ∧
      ∀ (i : Nat) (u : Value), b.cells[i]? = some u → ∃ v, c[sp.off + i]? = some v ∧ VRel ρ u v := by unfold BlkOk; rw [if_pos h]
theorem BlkOk.ro {ρ : Ren} {w : World} {sp : Spot} {b : Blk} (h : ¬ b.own = true) : BlkOk ρ w sp b ↔ sp.step = b.step ∧ (b.cells = [] ∨ sp.block < w.heap.size) ∧ ∀ (i : Nat) (u : Value), b.cells[i]? = some u → ∃ v, w.cell? ⟨sp.block, sp.off + i, none⟩ = some v ∧ VRel ρ u v := by
  unfold BlkOk; rw [if_neg h]
/-- From one telling of a block to another one, cell by cell. -/
theorem BlkOk.map {ρ ρ' : Ren} {w : World} {sp : Spot} {b b' : Blk} (k : BlkOk ρ w sp b) (he : b'.elem = b.elem) (ho : b'.own = b.own) (hs : b'.step = b.step) (hl : b'.cells.length ≤ b.cells.length)
    (hc : ∀ (i : Nat) (u : Value), b'.cells[i]? = some u → ∃ x, b.cells[i]? = some x ∧ ∀ v, VRel ρ x v → VRel ρ' u v) : BlkOk ρ' w sp b' := by
  by_cases o : b.own = true
  · have o' : b'.own = true := by rw [ho]; exact o
    rw [BlkOk.own o] at k
    rw [BlkOk.own o', he, hs]
    obtain ⟨h1, c, h2, h3, h4, h5⟩ := k
    exact ⟨h1, c, h2, h3, by omega, fun i u hu => let ⟨x, e1, e2⟩ := hc i u hu; let ⟨v, a, r⟩ := h5 i x e1; ⟨v, a, e2 v r⟩⟩
  · have o' : ¬ b'.own = true := by rw [ho]; exact o
    rw [BlkOk.ro o] at k
    rw [BlkOk.ro o', hs]
    exact ⟨k.1, k.2.1.imp (fun e => List.length_eq_zero_iff.1 (by rw [e] at hl; simpa using hl)) id, fun i u hu => let ⟨x, e1, e2⟩ := hc i u hu; let ⟨v, a, r⟩ := k.2.2 i x e1; ⟨v, a, e2 v r⟩⟩
theorem BlkOk.mono {ρ ρ' : Ren} (h : Ren.le ρ ρ') {w : World} {sp : Spot} {b : Blk} (k : BlkOk ρ w sp b) : BlkOk ρ' w sp b :=
  k.map rfl rfl rfl (Nat.le_refl _) (fun _ u hu => ⟨u, hu, fun _ r => r.mono h⟩)

theorem BlkOk.lt {ρ : Ren} {w : World} {sp : Spot} {b : Blk} (k : BlkOk ρ w sp b) (nv : ¬ Void b) : sp.block < w.heap.size := by
  by_cases o : b.own = true
  · rw [BlkOk.own o] at k
    obtain ⟨_, c, h1, _⟩ := k; exact (Array.getElem?_eq_some_iff.1 h1).1
  · rw [BlkOk.ro o] at k; exact k.2.1.resolve_left (fun e => nv ⟨Bool.eq_false_iff.2 o, e⟩)
theorem BlkOk.void {ρ ρ' : Ren} {w w' : World} {sp : Spot} {b : Blk} (k : BlkOk ρ w sp b) (v : Void b) : BlkOk ρ' w' sp b := by
  have o : ¬ b.own = true := by rw [v.1]; decide
  rw [BlkOk.ro o] at *
  exact ⟨k.1, .inl v.2, fun i u hu => by rw [v.2] at hu; simp at hu⟩

theorem BlkOk.same {ρ : Ren} {w w' : World} {sp : Spot} {b : Blk} (k : BlkOk ρ w sp b) (h : ¬ Void b → w'.heap[sp.block]? = w.heap[sp.block]?) : BlkOk ρ w' sp b := by
  by_cases nv : Void b
  · exact k.void nv
  have h := h nv
  have hlt := k.lt nv
  have hlt' : sp.block < w'.heap.size := by
    have h1 : w.heap[sp.block]? = some w.heap[sp.block] := Array.getElem?_eq_getElem hlt
    rw [h1] at h
    exact (Array.getElem?_eq_some_iff.1 h).1
  by_cases o : b.own = true
  · rw [BlkOk.own o] at *; rw [h]; exact k
  · rw [BlkOk.ro o] at *
    exact ⟨k.1, .inr hlt', fun i u hu => let ⟨v, a, r⟩ := k.2.2 i u hu; ⟨v, (by rw [World.cell?] at a ⊢; simp only [h]; exact a), r⟩⟩

structure HOk (ρ : Ren) (w : World) (H : Nat → Cell) : Prop where
  fresh : ∀ k, H k = .fresh → ρ k = none
  live : ∀ k b, H k = .live b → ∃ sp, ρ k = some sp ∧ BlkOk ρ w sp b
  apart : ∀ k k' b b' sp sp', k ≠ k' → H k = .live b → H k' = .live b' → b.own = true → ¬ Void b' → ρ k = some sp → ρ k' = some sp' → sp.block ≠ sp'.block

structure Ctx where
  w0 : World
  W : Nat → Prop
  n : Nat
  m : Nat
  pin : Ren

structure FrameOk (w0 : World) (W : Nat → Prop) (w : World) : Prop where
  os : w.os = w0.os
  tape : w.tape = w0.tape
  output : w.output = w0.output
  size : w0.heap.size ≤ w.heap.size
  block : ∀ b, b < w0.heap.size → ¬ W b → w.heap[b]? = w0.heap[b]?

theorem FrameOk.refl (w : World) (W : Nat → Prop) : FrameOk w W w := ⟨rfl, rfl, rfl, Nat.le_refl _, fun _ _ _ => rfl⟩

structure Rel (C : Ctx) (ρ : Ren) (S : St) (a : Act) (w : World) : Prop where
  size : a.tmps.size = C.n
  defers : a.defers = []
  temps : ∀ t v, S.T t = some v → ∃ v', a.tmps[t]? = some v' ∧ VRel ρ v v'
  heap : HOk ρ w S.H
  frame : FrameOk C.w0 C.W w
  owned : ∀ k b sp, S.H k = .live b → b.own = true → ρ k = some sp → C.W sp.block ∨ C.w0.heap.size ≤ sp.block
  pin : ∀ k, k < C.m → ∃ sp, C.pin k = some sp ∧ ρ k = some sp

theorem HOk.drawn {ρ : Ren} {w : World} {H : Nat → Cell} (h : HOk ρ w H) (n : Nat) : HOk ρ { w with drawn := n } H :=
  ⟨h.fresh, fun k b hk => let ⟨sp, a, r⟩ := h.live k b hk; ⟨sp, a, r.same (fun _ => rfl)⟩, h.apart⟩
theorem Rel.drawn {C : Ctx} {ρ : Ren} {S : St} {a : Act} {w : World} (h : Rel C ρ S a w) (n : Nat) : Rel C ρ S a { w with drawn := n } :=
  ⟨h.size, h.defers, h.temps, h.heap.drawn n, ⟨h.frame.os, h.frame.tape, h.frame.output, h.frame.size, h.frame.block⟩, h.owned, h.pin⟩

/-! ### 2. What an operation does; a region in whatever order -/
structure Eff where
  val : Value
  writes : List (Nat × Cell)
structure Step where
  reads : List Nat
  eff : Eff
instance : Inhabited Step := ⟨⟨[], ⟨undef, []⟩⟩⟩

def findW : List (Nat × Cell) → Nat → Option Cell
  | [], _ => none
  | (k, c) :: l, n => bif Nat.beq n k then some c else findW l n
def wr (l : List (Nat × Cell)) (H : Nat → Cell) : Nat → Cell := fun n => (findW l n).getD (H n)
theorem findW_none {l : List (Nat × Cell)} {n : Nat} (h : n ∉ l.map (·.1)) : findW l n = none := by
  induction l with
  | nil => rfl
  | cons x l ih =>
    obtain ⟨k, c⟩ := x
    simp only [List.map_cons, List.mem_cons, not_or] at h
    have : Nat.beq n k = false := by
      cases hb : Nat.beq n k with
      | false => rfl
      | true => exact absurd (Nat.eq_of_beq_eq_true hb) h.1
    simp only [findW, this, cond_false]
    exact ih h.2
theorem findW_some {l : List (Nat × Cell)} {n : Nat} (h : n ∈ l.map (·.1)) : ∃ c, findW l n = some c ∧ (n, c) ∈ l := by
  induction l with
  | nil => simp at h
  | cons x l ih =>
    obtain ⟨k, c⟩ := x
    simp only [findW]
    cases hb : Nat.beq n k with
    | true => exact ⟨c, rfl, by rw [Nat.eq_of_beq_eq_true hb]; exact List.mem_cons_self⟩
    | false =>
      simp only [cond_false]
      simp only [List.map_cons, List.mem_cons] at h
      rcases h with h | h
      · subst h; simp at hb
      · obtain ⟨c', h1, h2⟩ := ih h
        exact ⟨c', h1, List.mem_cons_of_mem _ h2⟩

def putT (T : Nat → Option Value) (d : Option Tmp) (v : Value) : Nat → Option Value :=
  match d with
  | some d => upd T d (some v)
  | none => T
theorem putT_self (T : Nat → Option Value) (t : Tmp) (v : Value) : putT T (some t) v t = some v := upd_self _ _ _
theorem putT_ne {T : Nat → Option Value} {d : Option Tmp} {v : Value} {t : Tmp} (h : d ≠ some t) : putT T d v t = T t := by
  cases d with
  | none => rfl
  | some d => exact upd_ne _ _ (fun e => h (by rw [e]))
theorem getD_true {l : Array Bool} {j : Nat} (h : j < l.size) : l.getD j true = l.getD j false := by simp [Array.getD, h]
def St.put (S : St) (d : Option Tmp) (E : Eff) : St := ⟨putT S.T d E.val, wr E.writes S.H⟩

/-- What operation i of a region does in state S, and in every state that is like it where the operation looks. -/
def Does (C : Ctx) (P : Program) (ops : Array Oper) (i : Nat) (S : St) (s : Step) : Prop :=
  ∀ (o : Oper), ops[i]? = some o → (∀ d, o.dst = some d → d < C.n) → ∀ (S' : St) (ρ : Ren) (a : Act) (w : World) (K : Act → World → Prop) (Q : Exit → Act → World → Prop),
    (∀ t, t ∈ o.looksAt ops → S'.T t = S.T t) → (∀ k, k ∈ s.reads → S'.H k = S.H k) → Rel C ρ S' a w →
    (∀ ρ' a' w', Rel C ρ' (S'.put o.dst s.eff) a' w' → K a' w') → wpOp P ops Q i K a w

section
variable (ops : Array Oper) (steps : List Step)
def dstOf (i : Nat) : Option Tmp := (ops[i]?).bind (·.dst)
def effOf (i : Nat) : Eff := (steps.getD i default).eff
def stD (D : Nat → Bool) (S0 : St) : Nat → St
  | 0 => S0
  | i + 1 => bif D i then (stD D S0 i).put (dstOf ops i) (effOf steps i) else stD D S0 i

theorem stD_agreeT {D D' : Nat → Bool} {S0 : St} {t : Nat} : ∀ {n : Nat}, (∀ j, j < n → dstOf ops j = some t → D j = D' j) →
    (stD ops steps D S0 n).T t = (stD ops steps D' S0 n).T t
  | 0, _ => rfl
  | n + 1, h => by
    have ih := stD_agreeT (S0 := S0) (t := t) (n := n) (fun j hj => h j (Nat.lt_succ_of_lt hj))
    simp only [stD]
    by_cases hd : dstOf ops n = some t
    · rw [h n (Nat.lt_succ_self n) hd]
      cases D' n
      · exact ih
      · simp only [cond_true, St.put, hd, putT_self]
    · have key : ∀ S : St, (S.put (dstOf ops n) (effOf steps n)).T t = S.T t := fun S => putT_ne hd
      cases D n <;> cases D' n <;> simp only [cond_true, cond_false, key] <;> exact ih

theorem stD_agreeH {D D' : Nat → Bool} {S0 : St} {k : Nat} : ∀ {n : Nat}, (∀ j, j < n → k ∈ (effOf steps j).writes.map (·.1) → D j = D' j) →
    (stD ops steps D S0 n).H k = (stD ops steps D' S0 n).H k
  | 0, _ => rfl
  | n + 1, h => by
    have ih := stD_agreeH (S0 := S0) (k := k) (n := n) (fun j hj => h j (Nat.lt_succ_of_lt hj))
    simp only [stD]
    by_cases hd : k ∈ (effOf steps n).writes.map (·.1)
    · rw [h n (Nat.lt_succ_self n) hd]
      obtain ⟨c, hc, _⟩ := findW_some hd
      cases D' n
      · exact ih
      · simp only [cond_true, St.put, wr, hc, Option.getD_some]
    · have key : ∀ S : St, (S.put (dstOf ops n) (effOf steps n)).H k = S.H k := fun S => by simp only [St.put, wr, findW_none hd, Option.getD_none]
      cases D n <;> cases D' n <;> simp only [cond_true, cond_false, key] <;> exact ih

theorem stD_lt {S0 : St} {i : Nat} : ∀ {n : Nat}, i ≤ n → stD ops steps (fun j => decide (j < i)) S0 n = stD ops steps (fun _ => true) S0 i := by
  have base : ∀ m, m ≤ i → stD ops steps (fun j => decide (j < i)) S0 m = stD ops steps (fun _ => true) S0 m := by
    intro m
    induction m with
    | zero => intro _; rfl
    | succ m ih => intro hm; simp only [stD]; rw [ih (by omega)]; simp [show m < i by omega]
  intro n hn
  induction n with
  | zero => have : i = 0 := by omega
            subst this; rfl
  | succ n ih =>
    by_cases e : i = n + 1
    · subst e; exact base _ (Nat.le_refl _)
    · simp only [stD]; rw [ih (by omega)]; simp [show ¬ n < i by omega]

theorem stD_lastT {D : Nat → Bool} {S0 : St} {t i : Nat} (hi : D i = true) (hd : dstOf ops i = some t) : ∀ {n : Nat}, i < n →
    (∀ j, i < j → j < n → dstOf ops j = some t → D j = false) → (stD ops steps D S0 n).T t = some (effOf steps i).val
  | 0, h, _ => by omega
  | n + 1, h, hl => by
    simp only [stD]
    by_cases e : i = n
    · subst e; simp only [hi, cond_true, St.put, hd, putT_self]
    · have ih := stD_lastT (S0 := S0) (n := n) hi hd (by omega) (fun j a b => hl j a (by omega))
      by_cases hdn : dstOf ops n = some t
      · rw [hl n (by omega) (by omega) hdn]; exact ih
      · have key : ∀ S : St, (S.put (dstOf ops n) (effOf steps n)).T t = S.T t := fun S => putT_ne hdn
        cases D n <;> simp only [cond_true, cond_false, key] <;> exact ih

theorem stD_lastH {D : Nat → Bool} {S0 : St} {k i : Nat} {c : Cell} (hi : D i = true) (hd : findW (effOf steps i).writes k = some c) : ∀ {n : Nat}, i < n →
    (∀ j, i < j → j < n → k ∈ (effOf steps j).writes.map (·.1) → D j = false) → (stD ops steps D S0 n).H k = c
  | 0, h, _ => by omega
  | n + 1, h, hl => by
    simp only [stD]
    by_cases e : i = n
    · subst e; simp only [hi, cond_true, St.put, wr, hd, Option.getD_some]
    · have ih := stD_lastH (S0 := S0) (n := n) hi hd (by omega) (fun j a b => hl j a (by omega))
      by_cases hdn : k ∈ (effOf steps n).writes.map (·.1)
      · rw [hl n (by omega) (by omega) hdn]; exact ih
      · have key : ∀ S : St, (S.put (dstOf ops n) (effOf steps n)).H k = S.H k := fun S => by simp only [St.put, wr, findW_none hdn, Option.getD_none]
        cases D n <;> simp only [cond_true, cond_false, key] <;> exact ih

/-- What must have come up before operation i: by the edges; and all of it. -/
def deps (i : Nat) : List Nat := match ops[i]? with
  | some o => (o.after.toList.filter (fun e => Region.binds .any e)).map (·.on)
  | none => []
def anc (A : List (List Nat)) (i : Nat) : List Nat := A.getD i []
def ancOk (A : List (List Nat)) : Bool := (List.range ops.size).all fun i =>
  (deps ops i).all (fun j => Nat.blt j i) && (anc A i).all fun j => Nat.blt j i && (deps ops i).any fun e => Nat.beq j e || (anc A e).any (Nat.beq j)
def linked (A : List (List Nat)) (i j : Nat) : Bool := (anc A i).any (Nat.beq j) || (anc A j).any (Nat.beq i)
def looks (i : Nat) : List Tmp := match ops[i]? with
  | some o => o.looksAt ops ++ o.dst.toList
  | none => []
def tempsApart (A : List (List Nat)) : Bool := (List.range ops.size).all fun i => (List.range ops.size).all fun j =>
  Nat.beq i j || (match dstOf ops j with | some t => !(looks ops i).any (Nat.beq t) | none => true) || linked A i j
def keysOf (s : Step) : List Nat := s.eff.writes.map (·.1)
def heapApart (A : List (List Nat)) : Bool := (List.range ops.size).all fun i => (List.range ops.size).all fun j =>
  Nat.beq i j || (keysOf (steps.getD j default)).all (fun k => !((steps.getD i default).reads ++ keysOf (steps.getD i default)).any (Nat.beq k)) || linked A i j
end

theorem blt_lt {a b : Nat} (h : Nat.blt a b = true) : a < b := Nat.le_of_ble_eq_true h
theorem any_beq {l : List Nat} {j : Nat} : l.any (Nat.beq j) = true ↔ j ∈ l := by
  rw [List.any_eq_true]
  constructor
  · rintro ⟨x, hx, h⟩; rw [Nat.eq_of_beq_eq_true h]; exact hx
  · intro h; exact ⟨j, h, by simp⟩

section
variable {ops : Array Oper} {steps : List Step} {A : List (List Nat)}

theorem anc_closed (hA : ancOk ops A = true) {D : Nat → Bool} (hD : ∀ j, D j = true → ∀ e ∈ deps ops j, D e = true) (hb : ∀ j, D j = true → j < ops.size) :
    ∀ (j : Nat), D j = true → ∀ i ∈ anc A j, D i = true := by
  intro j
  induction j using Nat.strongRecOn with
  | _ j ih =>
    intro hj i hi
    have h := List.all_eq_true.1 hA j (List.mem_range.2 (hb j hj))
    rw [Bool.and_eq_true] at h
    have h2 := List.all_eq_true.1 h.2 i hi
    rw [Bool.and_eq_true, List.any_eq_true] at h2
    obtain ⟨_, e, he, h3⟩ := h2
    have hlt := List.all_eq_true.1 h.1 e he
    have hlt' : e < j := blt_lt hlt
    rw [Bool.or_eq_true] at h3
    rcases h3 with h3 | h3
    · rw [Nat.eq_of_beq_eq_true h3]; exact hD j hj e he
    · exact ih e hlt' (hD j hj e he) i (any_beq.1 h3)

theorem linked_spec (hA : ancOk ops A = true) {D : Nat → Bool} (hD : ∀ j, D j = true → ∀ e ∈ deps ops j, D e = true) (hb : ∀ j, D j = true → j < ops.size)
    {i j : Nat} (hi : i < ops.size) (hj : j < ops.size) (hl : linked A i j = true) (hDi : D i = false) (hdi : ∀ e ∈ deps ops i, D e = true) :
    D j = decide (j < i) := by
  have lt_of : ∀ x y, y < ops.size → x ∈ anc A y → x < y := fun x y hy hx => by
    have h := List.all_eq_true.1 hA y (List.mem_range.2 hy)
    rw [Bool.and_eq_true] at h
    have h2 := List.all_eq_true.1 h.2 x hx
    rw [Bool.and_eq_true] at h2
    exact blt_lt h2.1
  unfold linked at hl
  rw [Bool.or_eq_true, any_beq, any_beq] at hl
  rcases hl with hl | hl
  · have hlt := lt_of j i hi hl
    have h := List.all_eq_true.1 hA i (List.mem_range.2 hi)
    rw [Bool.and_eq_true] at h
    have h2 := List.all_eq_true.1 h.2 j hl
    rw [Bool.and_eq_true, List.any_eq_true] at h2
    obtain ⟨_, e, he, h3⟩ := h2
    rw [Bool.or_eq_true] at h3
    have : D j = true := by
      rcases h3 with h3 | h3
      · rw [Nat.eq_of_beq_eq_true h3]; exact hdi e he
      · exact anc_closed hA hD hb e (hdi e he) j (any_beq.1 h3)
    rw [this]; simp [hlt]
  · have hlt := lt_of i j hj hl
    have : D j = false := by
      cases h : D j with
      | false => rfl
      | true => rw [anc_closed hA hD hb j h i hl] at hDi; cases hDi
    rw [this]; simp; omega

/-- A region that draws its order: what it does in the text's order it does in every order. -/
theorem region_any {C : Ctx} {P : Program} {id : Nat} {S0 : St} {ρ : Ren} {a : Act} {w : World} {Q : Exit → Act → World → Prop}
    (hm : P.follows .mixedOrders = true) (hds : ∀ (i : Nat) (o : Oper) (d : Tmp), ops[i]? = some o → o.dst = some d → d < C.n) (hA : ancOk ops A = true) (hT : tempsApart ops A = true) (hH : heapApart ops steps A = true)
    (hdo : ∀ i, i < ops.size → Does C P ops i (stD ops steps (fun _ => true) S0 i) (steps.getD i default))
    (hr : Rel C ρ S0 a w) (hq : ∀ ρ' a' w', Rel C ρ' (stD ops steps (fun _ => true) S0 ops.size) a' w' → Q .normal a' w') :
    (Code.region id ops true).wp P Q a w := by
  refine wp_region_any hm ?_
  have key : ∀ (fuel : Nat) (listed : Array Bool) (ρ : Ren) (a : Act) (w : World), listed.size = ops.size → listed.toList.count false = fuel →
      (∀ j, listed.getD j false = true → ∀ e ∈ deps ops j, listed.getD e false = true) →
      Rel C ρ (stD ops steps (fun j => listed.getD j false) S0 ops.size) a w → wpAny P .any ops Q fuel listed a w := by
    intro fuel
    induction fuel with
    | zero =>
      intro listed ρ a w hs hc hcl hr
      have hall : ∀ j, j < ops.size → listed.getD j false = true := by
        intro j hj
        have : false ∉ listed.toList := List.count_eq_zero.1 hc
        have hj' : j < listed.size := by omega
        cases h : listed[j] with
        | true => simp [Array.getD, hj', h]
        | false => exact absurd (by rw [← h]; simp) this
      refine ⟨?_, ?_⟩
      · unfold Region.ready
        rw [List.filter_eq_nil_iff]
        intro j hj
        have hj2 := List.mem_range.1 hj
        rw [getD_true (by omega), hall j hj2]
        simp
      · refine hq ρ a w ?_
        have : stD ops steps (fun j => listed.getD j false) S0 ops.size = stD ops steps (fun _ => true) S0 ops.size := by
          have gen : ∀ n, n ≤ ops.size → stD ops steps (fun j => listed.getD j false) S0 n = stD ops steps (fun _ => true) S0 n := by
            intro n
            induction n with
            | zero => intro _; rfl
            | succ n ih => intro hn; simp only [stD]; rw [ih (by omega), hall n (by omega)]
          exact gen _ (Nat.le_refl _)
        rw [← this]; exact hr
    | succ fuel ih =>
      intro listed ρ a w hs hc hcl hr
      have hb : ∀ j, listed.getD j false = true → j < ops.size := by
        intro j hj
        rcases Nat.lt_or_ge j listed.size with h | h
        · omega
        · simp [Array.getD, Nat.not_lt.2 h] at hj
      have depsOf : ∀ i o, ops[i]? = some o → deps ops i = (o.after.toList.filter (fun e => Region.binds .any e)).map (·.on) := fun i o h => by simp [deps, h]
      refine ⟨?_, ?_⟩
      · intro hn
        exfalso
        have hmem : false ∈ listed.toList := List.count_pos_iff.1 (by omega)
        obtain ⟨j0, hj0, hv0⟩ := List.getElem_of_mem hmem
        have hex : ∃ j, j < ops.size ∧ listed.getD j false = false := ⟨j0, by simpa [hs] using hj0, by
          have hj' : j0 < listed.size := by simpa using hj0
          simp only [Array.getD, hj', dite_true]; simpa using hv0⟩
        have least : ∀ n, ∀ j, j < n → j < ops.size → listed.getD j false = false → False := by
          intro n
          induction n with
          | zero => intro j h; omega
          | succ n ihn =>
            intro j hjn hj hjf
            have hprev : ∀ e, e < j → listed.getD e false = true := fun e he => by
              cases h : listed.getD e false with
              | true => rfl
              | false => exact (ihn e (by omega) (by omega) h).elim
            have hin : j ∈ Region.ready .any ops listed := by
              unfold Region.ready
              rw [List.mem_filter]
              refine ⟨List.mem_range.2 hj, ?_⟩
              have ho : ops[j]? = some ops[j] := Array.getElem?_eq_getElem hj
              rw [getD_true (by omega), hjf, ho]
              simp only [Bool.not_false, Bool.true_and, Option.map_some, Option.getD_some]
              rw [← Array.all_toList, List.all_eq_true]
              intro e he
              cases hbd : Region.binds .any e with
              | false => rfl
              | true =>
                have hd : e.on ∈ deps ops j := by rw [depsOf j _ ho]; exact List.mem_map.2 ⟨e, List.mem_filter.2 ⟨he, hbd⟩, rfl⟩
                have hlt := (Bool.and_eq_true _ _ ▸ List.all_eq_true.1 hA j (List.mem_range.2 hj)).1
                have := List.all_eq_true.1 hlt e.on hd
                rw [hprev e.on (blt_lt this)]; rfl
            rw [hn] at hin; cases hin
        obtain ⟨j, hj, hjf⟩ := hex
        exact least (j + 1) j (Nat.lt_succ_self j) hj hjf
      · intro i hi
        unfold Region.ready at hi
        rw [List.mem_filter] at hi
        obtain ⟨hir, hic⟩ := hi
        have hin := List.mem_range.1 hir
        have hi' : i < listed.size := by omega
        have ho : ops[i]? = some ops[i] := Array.getElem?_eq_getElem hin
        rw [Bool.and_eq_true] at hic
        obtain ⟨hif, hia⟩ := hic
        have hDi : listed.getD i false = false := by
          rw [getD_true hi'] at hif; simpa using hif
        have hdi : ∀ e ∈ deps ops i, listed.getD e false = true := by
          intro e he
          rw [depsOf i _ ho] at he
          obtain ⟨ed, hed, rfl⟩ := List.mem_map.1 he
          obtain ⟨hed1, hed2⟩ := List.mem_filter.1 hed
          rw [ho] at hia
          simp only [Option.map_some, Option.getD_some] at hia
          rw [← Array.all_toList, List.all_eq_true] at hia
          have := hia ed hed1
          rw [hed2] at this
          simpa using this
        have hdoi := hdo i hin _ ho (fun d => hds i _ d ho)
        -- the state at hand is like the text's where i looks
        have agT : ∀ t, t ∈ looks ops i → ∀ j, j < ops.size → dstOf ops j = some t → j ≠ i → listed.getD j false = decide (j < i) := by
          intro t ht j hj hdj hne
          have h1 := List.all_eq_true.1 (List.all_eq_true.1 hT i (List.mem_range.2 hin)) j (List.mem_range.2 hj)
          rw [Bool.or_eq_true, Bool.or_eq_true, hdj] at h1
          rcases h1 with (h1 | h1) | h1
          · exact absurd (Nat.eq_of_beq_eq_true h1).symm hne
          · simp only [Bool.not_eq_true'] at h1
            rw [any_beq.2 ht] at h1; cases h1
          · exact linked_spec hA hcl hb hin hj h1 hDi hdi
        have agH : ∀ k, k ∈ (steps.getD i default).reads ++ keysOf (steps.getD i default) → ∀ j, j < ops.size → k ∈ (effOf steps j).writes.map (·.1) → j ≠ i →
            listed.getD j false = decide (j < i) := by
          intro k hk j hj hdj hne
          have h1 := List.all_eq_true.1 (List.all_eq_true.1 hH i (List.mem_range.2 hin)) j (List.mem_range.2 hj)
          rw [Bool.or_eq_true, Bool.or_eq_true] at h1
          rcases h1 with (h1 | h1) | h1
          · exact absurd (Nat.eq_of_beq_eq_true h1).symm hne
          · have h2 := List.all_eq_true.1 h1 k hdj
            simp only [Bool.not_eq_true'] at h2
            rw [any_beq.2 hk] at h2; cases h2
          · exact linked_spec hA hcl hb hin hj h1 hDi hdi
        have looksEq : looks ops i = ops[i].looksAt ops ++ ops[i].dst.toList := by simp [looks, ho]
        have dstEq : dstOf ops i = ops[i].dst := by simp [dstOf, ho]
        refine hdoi (stD ops steps (fun j => listed.getD j false) S0 ops.size) ρ a w _ Q ?_ ?_ hr ?_
        · intro t ht
          rw [← stD_lt ops steps (n := ops.size) (Nat.le_of_lt hin)]
          refine stD_agreeT ops steps (fun j hj hdj => ?_)
          by_cases e : j = i
          · subst e; rw [hDi]; simp
          · exact agT t (by rw [looksEq]; exact List.mem_append_left _ ht) j hj hdj e
        · intro k hk
          rw [← stD_lt ops steps (n := ops.size) (Nat.le_of_lt hin)]
          refine stD_agreeH ops steps (fun j hj hdj => ?_)
          by_cases e : j = i
          · subst e; rw [hDi]; simp
          · exact agH k (List.mem_append_left _ hk) j hj hdj e
        · intro ρ' a' w' hr'
          have hset : ∀ j, (listed.setIfInBounds i true).getD j false = if j = i then true else listed.getD j false := by
            intro j
            simp only [Array.getD_eq_getD_getElem?, Array.getElem?_setIfInBounds]
            by_cases e : i = j
            · subst e; simp [hi']
            · simp [e, Ne.symm e]
          have hstate : (stD ops steps (fun j => listed.getD j false) S0 ops.size).put ops[i].dst (steps.getD i default).eff =
              stD ops steps (fun j => (listed.setIfInBounds i true).getD j false) S0 ops.size := by
            have eT : ((stD ops steps (fun j => listed.getD j false) S0 ops.size).put ops[i].dst (steps.getD i default).eff).T =
                (stD ops steps (fun j => (listed.setIfInBounds i true).getD j false) S0 ops.size).T := by
              funext t
              by_cases hd : ops[i].dst = some t
              · rw [stD_lastT ops steps (i := i) (by rw [hset]; simp) (by rw [dstEq, hd]) hin ?_]
                · simp only [St.put, hd, putT_self, effOf]
                · intro j hij hj hdj
                  rw [hset, if_neg (by omega), agT t (by rw [looksEq, hd]; simp) j hj hdj (by omega)]
                  simp; omega
              · have : ((stD ops steps (fun j => listed.getD j false) S0 ops.size).put ops[i].dst (steps.getD i default).eff).T t =
                    (stD ops steps (fun j => listed.getD j false) S0 ops.size).T t := putT_ne hd
                rw [this]
                refine stD_agreeT ops steps (fun j hj hdj => ?_)
                rw [hset, if_neg]
                intro e; subst e; rw [dstEq] at hdj; exact hd hdj
            have eH : ((stD ops steps (fun j => listed.getD j false) S0 ops.size).put ops[i].dst (steps.getD i default).eff).H =
                (stD ops steps (fun j => (listed.setIfInBounds i true).getD j false) S0 ops.size).H := by
              funext k
              by_cases hd : k ∈ (effOf steps i).writes.map (·.1)
              · obtain ⟨c, hc, _⟩ := findW_some hd
                rw [stD_lastH ops steps (i := i) (by rw [hset]; simp) hc hin ?_]
                · simp only [St.put, wr]; unfold effOf at hc; rw [hc]; rfl
                · intro j hij hj hdj
                  rw [hset, if_neg (by omega), agH k (List.mem_append_right _ hd) j hj hdj (by omega)]
                  simp; omega
              · have : ((stD ops steps (fun j => listed.getD j false) S0 ops.size).put ops[i].dst (steps.getD i default).eff).H k =
                    (stD ops steps (fun j => listed.getD j false) S0 ops.size).H k := by
                  simp only [St.put, wr]; unfold effOf at hd; rw [findW_none hd]; rfl
                rw [this]
                refine stD_agreeH ops steps (fun j hj hdj => ?_)
                rw [hset, if_neg]
                intro e; subst e; exact hd hdj
            cases hx : (stD ops steps (fun j => listed.getD j false) S0 ops.size).put ops[i].dst (steps.getD i default).eff
            cases hy : stD ops steps (fun j => (listed.setIfInBounds i true).getD j false) S0 ops.size
            rw [hx, hy] at eT eH
            simp only at eT eH
            rw [eT, eH]
          rw [hstate] at hr'
          refine ih _ ρ' a' w' (by simp [hs]) ?_ ?_ hr'
          · have hlv : listed.toList[i]'(by simpa using hi') = false := by
              have := hDi
              simp only [Array.getD, hi', dite_true] at this
              simpa using this
            rw [Array.toList_setIfInBounds, List.count_set (by simpa using hi'), hlv, hc]
            simp
          · intro j hj e he
            rw [hset] at hj ⊢
            by_cases eei : e = i
            · simp [eei]
            · rw [if_neg eei]
              by_cases ej : j = i
              · subst ej; exact hdi e he
              · rw [if_neg ej] at hj; exact hcl j hj e he
  refine key ops.size (Array.replicate ops.size false) ρ a _ (by simp) (by simp) (fun j hj => ?_) ?_
  · exfalso
    simp only [Array.getD_eq_getD_getElem?] at hj
    by_cases h : j < ops.size
    · simp [h] at hj
    · simp [h] at hj
  · have : stD ops steps (fun j => (Array.replicate ops.size false).getD j false) S0 ops.size = S0 := by
      have gen : ∀ n, stD ops steps (fun j => (Array.replicate ops.size false).getD j false) S0 n = S0 := by
        intro n
        induction n with
        | zero => rfl
        | succ n ih =>
          simp only [stD]
          have : (Array.replicate ops.size false).getD n false = false := by
            simp only [Array.getD_eq_getD_getElem?]
            by_cases h : n < ops.size <;> simp [h]
          rw [this]; exact ih
      exact gen _
    rw [this]
    exact hr.drawn _

/-- A region in the text's order. -/
theorem region_text {C : Ctx} {P : Program} {id : Nat} {S0 : St} {ρ : Ren} {a : Act} {w : World} {Q : Exit → Act → World → Prop}
    (hds : ∀ (i : Nat) (o : Oper) (d : Tmp), ops[i]? = some o → o.dst = some d → d < C.n)
    (hdo : ∀ i, i < ops.size → Does C P ops i (stD ops steps (fun _ => true) S0 i) (steps.getD i default))
    (hr : Rel C ρ S0 a w) (hq : ∀ ρ' a' w', Rel C ρ' (stD ops steps (fun _ => true) S0 ops.size) a' w' → Q .normal a' w') :
    (Code.region id ops false).wp P Q a w := by
  refine wp_region ?_
  have key : ∀ (m i : Nat) (ρ : Ren) (a : Act) (w : World), i + m = ops.size → Rel C ρ (stD ops steps (fun _ => true) S0 i) a w → wpOps P ops Q (List.range' i m) a w := by
    intro m
    induction m with
    | zero => intro i ρ a w h hr; simp only [List.range'_zero, wpOps]; have : i = ops.size := by omega
              subst this; exact hq ρ a w hr
    | succ m ih =>
      intro i ρ a w h hr
      have hin : i < ops.size := by omega
      have ho : ops[i]? = some ops[i] := Array.getElem?_eq_getElem hin
      rw [List.range'_succ, wpOps_cons]
      refine hdo i hin _ ho (fun d => hds i _ d ho) _ ρ a w _ Q (fun _ _ => rfl) (fun _ _ => rfl) hr (fun ρ' a' w' hr' => ?_)
      refine ih (i + 1) ρ' a' w' (by omega) ?_
      simp only [stD, cond_true]
      have dstEq : dstOf ops i = ops[i].dst := by simp [dstOf, ho]
      rw [dstEq]; exact hr'
  have := key ops.size 0 ρ a w (by omega) hr
  rwa [List.range_eq_range']
end
end Go.Proofs.Ytigllakcfdoagaa.Am
