import Derived.Test.YtigllakcfdoagaaAm12
namespace Go.Proofs.Ytigllakcfdoagaa.Am
open Go
set_option linter.unusedVariables false
/-! ### 24. Runs of operations that the kernel itself walks -/
def sub1 : Code → Bool → Code
  | .seq x y, b => bif b then y else x
  | .cond _ x y, b => bif b then y else x
  | .block _ x, _ => x
  | .loop x, _ => x
  | c, _ => c
def sbF (f : Func) : Nat → Nat → Code
  | 0, _ => bodyOf f
  | k + 1, n => bif Nat.ble n 1 then bodyOf f else sub1 (sbF f k (n / 2)) (Nat.beq (n % 2) 1)
/-- the code at a place of a body: a number whose bits, behind the first one, are the path -/
def sb (f : Func) (n : Nat) : Code := sbF f 64 n

def okInt (v : Value) : Option Int := match v with | .int _ n => some n | _ => none
def mmOf (c : Call) : Option (Bool × List Operand) := match c.callee with
  | .builtin b => match b with
    | .min => some (true, c.args.toList)
    | .max => some (false, c.args.toList)
    | _ => none
  | _ => none
def mmGo (b : Bool) (k : IntKind) (e : Operand → Value) : List Operand → Int → Option Value
  | [], a => some (.int k a)
  | y :: l, a => match e y with
    | .int _ c => mmGo b k e l (bif b then (if c < a then c else a) else (if c > a then c else a))
    | _ => none
/-- values of arithmetic; what it tells is checked against the model where it is used -/
def pv (P : Program) (op : Op) (e : Operand → Value) : Option Value := match op with
  | .binOp o t x y _ => match e x, e y with
    | .int k a, .int _ b => match o with
      | .add => some (.int k (IntKind.wrap k (a + b)))
      | .sub => some (.int k (IntKind.wrap k (a - b)))
      | .mul => some (.int k (IntKind.wrap k (a * b)))
      | .quo => some (.int k (IntKind.wrap k (Int.tdiv a b)))
      | .rem => some (.int k (Int.tmod a b))
      | .and => some (.int k (IntKind.wrap k ((BitVec.ofInt k.bits a &&& BitVec.ofInt k.bits b).toNat : Int)))
      | .or => some (.int k (IntKind.wrap k ((BitVec.ofInt k.bits a ||| BitVec.ofInt k.bits b).toNat : Int)))
      | .xor => some (.int k (IntKind.wrap k ((BitVec.ofInt k.bits a ^^^ BitVec.ofInt k.bits b).toNat : Int)))
      | .andNot => some (.int k (IntKind.wrap k ((BitVec.ofInt k.bits a &&& ~~~ BitVec.ofInt k.bits b).toNat : Int)))
      | .shl => some (.int k (IntKind.wrap k (a * 2 ^ (min b.toNat k.bits))))
      | .shr => some (.int k (Int.fdiv a (2 ^ (min b.toNat k.bits))))
      | .eql => some (.bool (a == b))
      | .neq => some (.bool (a != b))
      | .lss => some (.bool (decide (a < b)))
      | .leq => some (.bool (decide (a ≤ b)))
      | .gtr => some (.bool (decide (a > b)))
      | .geq => some (.bool (decide (a ≥ b)))
    | .bool a, .bool b => match o with
      | .eql => some (.bool (a == b))
      | .neq => some (.bool (!(a == b)))
      | _ => none
    | u, v => match o with
      | .eql => (eqT P 64 t u v).map .bool
      | .neq => (eqT P 64 t u v).map (fun b => .bool (!b))
      | _ => none
  | .unOp o _ x => match e x with
    | .bool a => match o with
      | .not => some (.bool (!a))
      | _ => none
    | .int k a => match o with
      | .neg => some (.int k (IntKind.wrap k (0 - a)))
      | .xor => some (.int k (IntKind.wrap k ((BitVec.ofInt k.bits (bif (match k with | .i64 | .i32 | .i16 | .i8 => true | _ => false) then -1 else ((2 ^ k.bits - 1 : Nat) : Int)) ^^^ BitVec.ofInt k.bits a).toNat : Int)))
      | _ => none
    | _ => none
  | .convert _ d x => match P.underlying d, e x with
    | some (.int k), .int _ a => some (.int k (IntKind.wrap k a))
    | _, _ => none
  | .call c => match mmOf c with
    | some (b, x :: l) => match e x with
      | .int k a => mmGo b k e l a
      | _ => none
    | _ => none
  | _ => none
def isPv (op : Op) : Bool := match op with
  | .binOp _ _ _ _ _ | .unOp _ _ _ | .convert _ _ _ => true
  | .call c => (mmOf c).isSome
  | _ => false
/-- the builtin len -/
def lenOf (op : Op) : Option (Operand × TypeId) := match op with
  | .call c => match c.callee with
    | .builtin b => match b with
      | .len => match c.args.toList, c.argTypes.toList with
        | [x], [t] => some (x, t)
        | _, _ => none
      | _ => none
    | _ => none
  | _ => none
theorem lenOf_spec {op : Op} {x : Operand} {t : TypeId} (h : lenOf op = some (x, t)) : op = .call ⟨.builtin .len, #[x], #[t]⟩ := by
  unfold lenOf at h
  split at h
  · rename_i c
    obtain ⟨cal, ars, ats⟩ := c
    simp only at h
    split at h
    · split at h
      · split at h
        · rename_i h1 h2
          cases h
          have e1 : ars = #[x] := by rw [← Array.toArray_toList (xs := ars), h1]
          have e2 : ats = #[t] := by rw [← Array.toArray_toList (xs := ats), h2]
          rw [e1, e2]
        · cases h
      · cases h
    · cases h
  · cases h
def one (v : Value) (nid : Nat) : Option (Step × Nat) := some (⟨[], v, []⟩, nid)
def concB (j : Int) (n : Nat) : Bool := match j with
  | .ofNat a => Nat.blt a n
  | .negSucc _ => false
theorem concB_spec {j : Int} {n : Nat} (h : concB j n = true) : 0 ≤ j ∧ j < n := by
  unfold concB at h
  split at h
  · have := blt_lt h; exact ⟨Int.natCast_nonneg _, by simpa using this⟩
  · cases h

/-- the size of an element: of an array's, or the whole -/
def stepOf (P : Program) (t : TypeId) (n : Nat) : Nat := match arrLen P t, elemSize P t with
  | some _, some z => z
  | _, _ => n
/-- What operation i does in state S, 'nid' being a number that is not taken yet. -/
def stepA (P : Program) (ops : Array Oper) (S : St) (nid i : Nat) : Option (Step × Nat) :=
  match shapeAt ops S i with
  | none => none
  | some (_, false) => some (⟨[], undef, []⟩, nid)
  | some (op, true) => match op with
    | .move x => (ev S x).bind fun v => one v nid
    | .assign x => (ev S x).bind fun v => one v nid
    | .pick c x y => match ev S c with
      | some (.bool b) => (ev S (bif b then x else y)).bind fun v => one v nid
      | _ => none
    | .nilCheck x => match ev S x with
      | some (.pointer (some A)) => one (.pointer (some A)) nid
      | _ => none
    | .extract x n => match ev S x with
      | some (.tuple vs) => (vs[n]?).bind fun v => one v nid
      | _ => none
    | .fieldAddr s x f => match ev S x with
      | some (.pointer (some ⟨k, off, none⟩)) => (fieldOff P s f).bind fun d => one (.pointer (some ⟨k, off + d, none⟩)) nid
      | _ => none
    | .indexAddr t x y => match ev S x, ev S y with
      | some (.pointer (some ⟨k, off, none⟩)), some (.int _ j) => match arrLen P t, elemSize P t with
        | some n, some z => bif concB j n then one (.pointer (some ⟨k, off + j.toNat * z, none⟩)) nid else none
        | _, _ => none
      | some (.slice (some ⟨k, off, none⟩) n _), some (.int _ j) => match elemSize P t with
        | some z => bif concB j n && slcB P t then one (.pointer (some ⟨k, off + j.toNat * z, none⟩)) nid else none
        | _ => none
      | _, _ => none
    | .load t x => match ev S x with
      | some (.pointer (some ⟨k, off, none⟩)) => match S.H k with
        | .live b => (ldV P t b.cells off).bind fun v => some (⟨[k], v, []⟩, nid)
        | _ => none
      | _ => none
    | .store t x y => match ev S x, ev S y with
      | some (.pointer (some ⟨k, off, none⟩)), some v => match S.H k with
        | .live b => bif b.own && plainAll v.cells.toList && Nat.ble (off + v.cells.toList.length) b.cells.length && (match (P.info? t).map (·.size) with | some z => Nat.beq z v.cells.toList.length | none => false)
            then some (⟨[k], undef, [(k, .live ⟨setL b.cells off v.cells.toList, b.elem, true, b.step⟩)]⟩, nid) else none
        | _ => none
      | _, _ => none
    | .alloc t => match S.H nid, zeroOf P t with
      | .fresh, some v => bif flatB v then some (⟨[nid], .pointer (some ⟨nid, 0, none⟩), [(nid, .live ⟨v.cells.toList, t, true, stepOf P t v.cells.toList.length⟩)]⟩, nid + 1) else none
      | _, _ => none
    | .box t x => match S.H nid, ev S x with
      | .fresh, some v => some (⟨[nid], .pointer (some ⟨nid, 0, none⟩), [(nid, .live ⟨v.cells.toList, t, true, stepOf P t v.cells.toList.length⟩)]⟩, nid + 1)
      | _, _ => none
    | .build t parts => match zeroOf P t, evP S parts.toList with
      | some z, some ps => match fillL (placesOf P t) ps z.cells.toList with
        | some cells => bif z.cells.toList.all flatB && infosB P t then one (.agg cells.toArray) nid else none
        | none => none
      | _, _ => none
    | .buildSlice t n parts => match S.H nid, sliceElem P t, evP S parts.toList with
      | .fresh, some e, some ps => match (P.info? e).map (·.size), rowZero P e n with
        | some z, some zs => match fillL (fun i => some (i * z, z)) ps zs with
          | some cells => bif zs.all flatB && Nat.beq cells.length (n * z) && Nat.ble (n * z) 16777216 then some (⟨[nid], .slice (some ⟨nid, 0, none⟩) n 0, [(nid, .live ⟨cells, e, true, z⟩)]⟩, nid + 1) else none
          | none => none
        | _, _ => none
      | _, _, _ => none
    | .makeFunc fn a b => match evs S a.toList, evs S b.toList with
      | some xs, some cs => one (.func fn xs.toArray cs.toArray) nid
      | _, _ => none
    | op => match lenOf op with
      | some (x, t) => match ev S x with
        | some (.slice (some ⟨_, _, none⟩) n _) => bif slcB P t then one (.int .i64 n) nid else none
        | some (.slice none 0 0) => bif slcB P t then one (.int .i64 0) nid else none
        | _ => none
      | none => bif isPv op && pureB ops S i then (pv P op (eyes S)).bind fun v => bif flatB v then one v nid else none else none
/-- what is left to be checked against the model, world by world -/
def chkL (P : Program) (ops : Array Oper) (S : St) (i : Nat) (w : World) : Result Next := match shapeAt ops S i with
  | some (op, true) => bif isPv op then (execAt ops i (eyes S)).run P w else .ok .skip w
  | _ => .ok .skip w
def chkR (P : Program) (ops : Array Oper) (S : St) (i : Nat) (w : World) : Result Next := match shapeAt ops S i with
  | some (op, true) => bif isPv op then (match pv P op (eyes S) with | some v => .ok (.value v) w | none => .ok .skip w) else .ok .skip w
  | _ => .ok .skip w
theorem one_eq {v : Value} {nid nid' : Nat} {s : Step} (h : one v nid = some (s, nid')) : s = ⟨[], v, []⟩ := by unfold one at h; cases h; rfl
theorem bif_some {α : Type} {b : Bool} {x y : α} (h : (bif b then some x else none) = some y) : b = true ∧ x = y := by
  cases b with
  | false => cases h
  | true => cases h; exact ⟨rfl, rfl⟩

section
variable {C : Ctx} {P : Program} {ops : Array Oper} {S : St} {i nid nid' : Nat} {s : Step}
theorem stepA_does (h : stepA P ops S nid i = some (s, nid')) (hw : ∀ w, chkL P ops S i w = chkR P ops S i w) : Does C P ops i S s := by
  unfold stepA at h
  split at h
  · cases h
  · rename_i op hs
    cases h
    exact does_skip hs
  · rename_i op hs
    split at h
    · obtain ⟨v, hx, h⟩ := Option.bind_eq_some_iff.1 h
      rw [one_eq h]; exact does_move hs hx
    · obtain ⟨v, hx, h⟩ := Option.bind_eq_some_iff.1 h
      rw [one_eq h]; exact does_assign hs hx
    · split at h
      · rename_i b hc
        obtain ⟨v, hx, h⟩ := Option.bind_eq_some_iff.1 h
        rw [one_eq h]; exact does_pick hs hc hx
      · cases h
    · split at h
      · rename_i A hx
        rw [one_eq h]; exact does_nilCheck hs hx
      · cases h
    · split at h
      · rename_i vs hx
        obtain ⟨v, hv, h⟩ := Option.bind_eq_some_iff.1 h
        rw [one_eq h]; exact does_extract hs hx hv
      · cases h
    · split at h
      · rename_i k off hx
        obtain ⟨d, hd, h⟩ := Option.bind_eq_some_iff.1 h
        rw [one_eq h]; exact does_fieldAddr hs hx hd
      · cases h
    · split at h
      · rename_i k off kd j hx hy
        split at h
        · rename_i n z hn hz
          obtain ⟨hc, he⟩ := bif_some (by unfold one at h; exact h)
          cases he
          have := concB_spec hc
          exact does_indexArr hs hx hy hn hz this.1 this.2
        · cases h
      · rename_i k off n c kd j hx hy
        split at h
        · rename_i z hz
          obtain ⟨hc, he⟩ := bif_some (by unfold one at h; exact h)
          cases he
          rw [Bool.and_eq_true] at hc
          have := concB_spec hc.1
          exact does_indexSlice hs hx hy hc.2 hz this.1 this.2
        · cases h
      · cases h
    · split at h
      · rename_i k off hx
        split at h
        · rename_i b hb
          obtain ⟨v, hv, h⟩ := Option.bind_eq_some_iff.1 h
          cases h
          exact does_load hs hx hb hv
        · cases h
      · cases h
    · split at h
      · rename_i k off v hx hy
        split at h
        · rename_i b hb
          obtain ⟨hc, he⟩ := bif_some h
          cases he
          simp only [Bool.and_eq_true] at hc
          obtain ⟨⟨⟨h1, h2⟩, h3⟩, h4⟩ := hc
          refine does_store hs hx hy hb h1 ?_ h2 h3 rfl
          split at h4
          · rename_i z hz; rw [hz, Nat.eq_of_beq_eq_true h4]
          · cases h4
        · cases h
      · cases h
    · split at h
      · rename_i v hk hz
        obtain ⟨hc, he⟩ := bif_some h
        cases he
        exact does_alloc hs hk hz hc rfl
      · cases h
    · split at h
      · rename_i v hk hx
        cases h
        exact does_box hs hk hx rfl
      · cases h
    · split at h
      · rename_i z ps hz hps
        split at h
        · rename_i cells hc
          obtain ⟨hb, he⟩ := bif_some (by unfold one at h; exact h)
          cases he
          rw [Bool.and_eq_true] at hb
          exact does_build hs hz hb.1 hb.2 hps hc
        · cases h
      · cases h
    · split at h
      · rename_i e ps hk he hps
        split at h
        · rename_i z zs hz hzs
          split at h
          · rename_i cells hc
            obtain ⟨hb, hh⟩ := bif_some h
            cases hh
            simp only [Bool.and_eq_true] at hb
            exact does_buildSlice hs hk he hz hps hzs hb.1.1 hc hb.1.2 hb.2
          · cases h
        · cases h
      · cases h
    · split at h
      · rename_i xs cs hx hc
        rw [one_eq h]; exact does_makeFunc hs hx hc
      · cases h
    · split at h
      · rename_i x t hl
        have hop := lenOf_spec hl
        subst hop
        split at h
        · rename_i k off n c hx
          obtain ⟨hb, he⟩ := bif_some (by unfold one at h; exact h)
          cases he
          exact does_len hs hx hb
        · rename_i hx
          obtain ⟨hb, he⟩ := bif_some (by unfold one at h; exact h)
          cases he
          exact does_lenNil hs hx hb
        · cases h
      · cases hb : (isPv op && pureB ops S i) with
        | false => rw [hb] at h; cases h
        | true =>
          rw [hb] at h
          rw [Bool.and_eq_true] at hb
          obtain ⟨v, hv, h⟩ := Option.bind_eq_some_iff.1 h
          obtain ⟨hf, he⟩ := bif_some (by unfold one at h; exact h)
          cases he
          refine does_pure hb.2 (fun w => ?_) hf
          have := hw w
          unfold chkL chkR at this
          rw [hs] at this
          simp only [hb.1, cond_true, hv] at this
          exact this

/-- n operations from i on -/
def autoS (P : Program) (ops : Array Oper) : Nat → Nat → St → Nat → St
  | 0, _, S, _ => S
  | n + 1, i, S, nid => match stepA P ops S nid i with
    | some (s, nid') => autoS P ops n (i + 1) (S.put (dstOf ops i) s.eff) nid'
    | none => S
def autoE (P : Program) (ops : Array Oper) : Nat → Nat → St → Nat → List Step
  | 0, _, _, _ => []
  | n + 1, i, S, nid => match stepA P ops S nid i with
    | some (s, nid') => s :: autoE P ops n (i + 1) (S.put (dstOf ops i) s.eff) nid'
    | none => []
def autoOk (P : Program) (ops : Array Oper) : Nat → Nat → St → Nat → Bool
  | 0, _, _, _ => true
  | n + 1, i, S, nid => match stepA P ops S nid i with
    | some (s, nid') => autoOk P ops n (i + 1) (S.put (dstOf ops i) s.eff) nid'
    | none => false
def autoL (P : Program) (ops : Array Oper) (w : World) : Nat → Nat → St → Nat → List (Result Next)
  | 0, _, _, _ => []
  | n + 1, i, S, nid => chkL P ops S i w :: match stepA P ops S nid i with
    | some (s, nid') => autoL P ops w n (i + 1) (S.put (dstOf ops i) s.eff) nid'
    | none => []
def autoR (P : Program) (ops : Array Oper) (w : World) : Nat → Nat → St → Nat → List (Result Next)
  | 0, _, _, _ => []
  | n + 1, i, S, nid => chkR P ops S i w :: match stepA P ops S nid i with
    | some (s, nid') => autoR P ops w n (i + 1) (S.put (dstOf ops i) s.eff) nid'
    | none => []
end
section
variable {C : Ctx} {P : Program} {ops : Array Oper} {S' : St} {l : List Step}
theorem auto_runs : ∀ (n i : Nat) (S : St) (nid : Nat), autoOk P ops n i S nid = true → (∀ w, autoL P ops w n i S nid = autoR P ops w n i S nid) →
    Runs C P ops (i + n) (autoS P ops n i S nid) l S' → Runs C P ops i S (autoE P ops n i S nid ++ l) S'
  | 0, i, S, nid, _, _, r => r
  | n + 1, i, S, nid, ho, hw, r => by
    unfold autoOk at ho
    unfold autoS at r
    unfold autoE
    cases hs : stepA P ops S nid i with
    | none => rw [hs] at ho; cases ho
    | some x =>
      obtain ⟨s, nid'⟩ := x
      rw [hs] at ho
      rw [hs] at r
      simp only at ho r ⊢
      have hw1 : ∀ w, chkL P ops S i w = chkR P ops S i w := fun w => by
        have := hw w; unfold autoL autoR at this; exact (List.cons.inj this).1
      have hw2 : ∀ w, autoL P ops w n (i + 1) (S.put (dstOf ops i) s.eff) nid' = autoR P ops w n (i + 1) (S.put (dstOf ops i) s.eff) nid' := fun w => by
        have := hw w; unfold autoL autoR at this; rw [hs] at this; exact (List.cons.inj this).2
      have := auto_runs n (i + 1) (S.put (dstOf ops i) s.eff) nid' ho hw2 (by rw [show i + 1 + n = i + (n + 1) by omega]; exact r)
      exact .cons rfl (stepA_does hs hw1) this
variable {S : St} {i : Nat}
theorem Runs.a (n nid : Nat) (r : Runs C P ops (i + n) (autoS P ops n i S nid) l S') (ho : autoOk P ops n i S nid = true := by kernel_rfl)
    (hw : ∀ w, autoL P ops w n i S nid = autoR P ops w n i S nid := by intro w; kernel_rfl) : Runs C P ops i S (autoE P ops n i S nid ++ l) S' := auto_runs n i S nid ho hw r
/-- one operation, its proof given -/
theorem Runs.p {s : Step} (h : Does C P ops i S s) (r : Runs C P ops (i + 1) (S.put (dstOf ops i) s.eff) l S') : Runs C P ops i S (s :: l) S' := .cons rfl h r
theorem Runs.n : Runs C P ops i S [] S := .nil i S
end
section
variable {C : Ctx} {P : Program} {ops : Array Oper} {S : St} {i : Nat}
theorem does_i {n : Int} (n' : Int) (e : n = n') (k : IntKind) (h : stepA P ops S 0 i = some (⟨[], .int k n, []⟩, 0) := by kernel_rfl) (hw : ∀ w, chkL P ops S i w = chkR P ops S i w := by intro w; kernel_rfl) :
    Does C P ops i S ⟨[], .int k n', []⟩ := by subst e; exact stepA_does h hw
theorem does_b {b : Bool} (b' : Bool) (e : b = b') (h : stepA P ops S 0 i = some (⟨[], .bool b, []⟩, 0) := by kernel_rfl) (hw : ∀ w, chkL P ops S i w = chkR P ops S i w := by intro w; kernel_rfl) :
    Does C P ops i S ⟨[], .bool b', []⟩ := by subst e; exact stepA_does h hw
/-- Equality of structs and arrays. -/
def eqAt (P : Program) (ops : Array Oper) (S : St) (i : Nat) : Option Bool := match shapeAt ops S i with
  | some (.binOp o t x y _, true) => match ev S x, ev S y with
    | some (.agg xs), some (.agg ys) => bif flatB (.agg xs) && flatB (.agg ys) && !(P.eqGuardType P.depth t) then (match o with
        | .eql => eqT P 10000 t (.agg xs) (.agg ys)
        | .neq => (eqT P 10000 t (.agg xs) (.agg ys)).map (! ·)
        | _ => none) else none
    | _, _ => none
  | _ => none
theorem does_e {b : Bool} (b' : Bool) (e : b = b') (h : eqAt P ops S i = some b := by kernel_rfl) : Does C P ops i S ⟨[], .bool b', []⟩ := by
  subst e
  unfold eqAt at h
  split at h
  · rename_i o t x y t2 hs
    split at h
    · rename_i xs ys hx hy
      cases hc : (flatB (.agg xs) && flatB (.agg ys) && !(P.eqGuardType P.depth t)) with
      | false => rw [hc] at h; cases h
      | true =>
        rw [hc] at h
        simp only [Bool.and_eq_true, Bool.not_eq_true'] at hc
        simp only [cond_true] at h
        split at h
        · exact does_eql hs hx hy hc.1.1 hc.1.2 hc.2 h
        · obtain ⟨b0, h1, rfl⟩ := Option.map_eq_some_iff.1 h
          exact does_neq hs hx hy hc.1.1 hc.1.2 hc.2 h1
        · cases h
    · cases h
  · cases h
def callAt (P : Program) (ops : Array Oper) (S : St) (i : Nat) : Option (Nat × List Value) := match shapeAt ops S i with
  | some (.call ⟨.value x, ars, _⟩, true) => match ev S x, evs S ars.toList with
    | some (.func (.func g) a b), some vs => bif callB P g then some (g, a.toList ++ vs ++ b.toList) else none
    | _, _ => none
  | _ => none
theorem callAt_spec {g : Nat} {vs : List Value} (h : callAt P ops S i = some (g, vs)) : ∃ x ars ats a b us, shapeAt ops S i = some (.call ⟨.value x, ars, ats⟩, true) ∧ ev S x = some (.func (.func g) a b) ∧ evs S ars.toList = some us ∧ callB P g = true ∧ vs = a.toList ++ us ++ b.toList := by
  unfold callAt at h
  split at h
  · rename_i x ars ats hs
    split at h
    · rename_i g' a b us hx hu
      obtain ⟨hb, he⟩ := bif_some h
      cases he
      exact ⟨x, ars, ats, a, b, us, hs, hx, hu, hb, rfl⟩
    · cases h
  · cases h
/-- A call that hands no block over. -/
theorem does_c {g : Nat} {vs : List Value} {v : Value} (ac : AC P g 0 vs [] v []) (h : callAt P ops S i = some (g, vs) := by kernel_rfl) (hf : (vs.all flatB && flatB v) = true := by kernel_rfl) : Does C P ops i S ⟨[], v, []⟩ := by
  obtain ⟨x, ars, ats, a, b, us, hs, hx, hu, hb, he⟩ := callAt_spec h
  rw [Bool.and_eq_true] at hf
  have := does_call (C := C) (P := P) (ops := ops) (i := i) (S := S) (m := 0) (r := 0) (pre := []) (post := []) (v := v) (fun j => j) hs hx hu hb ac
    (by rw [← he]; exact .flat (fun u hu => only_flat (List.all_eq_true.1 hf.1 u hu))) trivial trivial (fun j hj => by omega) (fun j hj => by simp at hj) (fun i j hi => by omega) (fun j h1 h2 => by omega) trivial
    (fun j hj => by simp at hj) (.flat v (only_flat hf.2))
  exact this
theorem does_cb {g : Nat} {vs : List Value} (b' : Bool) (ac : AC P g 0 vs [] (.bool b') []) (b : Bool) (e : b' = b) (h : callAt P ops S i = some (g, vs) := by kernel_rfl) (hf : vs.all flatB = true := by kernel_rfl) : Does C P ops i S ⟨[], .bool b, []⟩ := by
  subst e; exact does_c ac h (by rw [hf]; rfl)
end
/-! blocks that are handed over, renamed by a list -/
def ren1 (sl : List Nat) : Value → Value
  | .pointer (some ⟨k, off, none⟩) => .pointer (some ⟨sl.getD k 0, off, none⟩)
  | .slice (some ⟨k, off, none⟩) n c => .slice (some ⟨sl.getD k 0, off, none⟩) n c
  | v => v
def renT (sl : List Nat) (v : Value) : Value := match v with
  | .agg ys => .agg (ys.toList.map (ren1 sl)).toArray
  | .tuple xs => .tuple xs
  | v => ren1 sl v
def renA (sl : List Nat) (v : Value) : Value := match v with
  | .tuple xs => .tuple (xs.toList.map (renT sl)).toArray
  | v => renT sl v
def rok1 (n : Nat) : Value → Bool
  | .pointer (some ⟨k, _, none⟩) => Nat.blt k n
  | .slice (some ⟨k, _, none⟩) _ _ => Nat.blt k n
  | v => flat1 v
def rokT (n : Nat) (v : Value) : Bool := match v with
  | .agg xs => xs.toList.all (rok1 n)
  | .tuple _ => false
  | v => rok1 n v
def rokA (n : Nat) (v : Value) : Bool := match v with
  | .tuple xs => xs.toList.all (rokT n)
  | v => rokT n v
theorem ren1_rel {sl : List Nat} {n : Nat} {v : Value} (h : rok1 n v = true) : RenV (fun j => sl.getD j 0) (· < n) v (ren1 sl v) := by
  unfold rok1 at h
  unfold ren1
  split at h
  · exact .ptr _ _ (blt_lt h)
  · exact .slice _ _ _ _ _ (blt_lt h)
  · exact .flat _ (only_flat1 h)
theorem renL_map {n : Nat} {σ : Nat → Nat} {f : Value → Value} : ∀ (l : List Value), (∀ v ∈ l, RenV σ (· < n) v (f v)) → RenL σ (· < n) l (l.map f)
  | [], _ => .nil
  | v :: l, h => .cons (h v List.mem_cons_self) (renL_map l (fun u hu => h u (List.mem_cons_of_mem _ hu)))
theorem renT_rel {sl : List Nat} {n : Nat} {v : Value} (h : rokT n v = true) : RenV (fun j => sl.getD j 0) (· < n) v (renT sl v) := by
  unfold rokT at h
  unfold renT
  split at h
  · rename_i xs
    exact .aggL (by simpa using renL_map xs.toList (fun v hv => ren1_rel (List.all_eq_true.1 h v hv)))
  · cases h
  · exact ren1_rel h
theorem renA_rel {sl : List Nat} {n : Nat} {v : Value} (h : rokA n v = true) : RenV (fun j => sl.getD j 0) (· < n) v (renA sl v) := by
  unfold rokA at h
  unfold renA
  split at h
  · rename_i xs
    exact .tupleL (by simpa using renL_map xs.toList (fun v hv => renT_rel (List.all_eq_true.1 h v hv)))
  · exact renT_rel h
def renBlk (sl : List Nat) (x : Nat × Blk) : Nat × Blk := (sl.getD x.1 0, ⟨x.2.cells.map (renA sl), x.2.elem, x.2.own, x.2.step⟩)
theorem renH_map {sl : List Nat} {n : Nat} : ∀ (l : List (Nat × Blk)), (l.all fun x => x.2.cells.all (rokA n)) = true → RenH (fun j => sl.getD j 0) (· < n) l (l.map (renBlk sl))
  | [], _ => trivial
  | x :: l, h => by
    simp only [List.all_cons, Bool.and_eq_true] at h
    exact ⟨rfl, ⟨rfl, rfl, rfl, renL_map _ (fun v hv => renA_rel (List.all_eq_true.1 h.1 v hv))⟩, renH_map l h.2⟩
section
variable {C : Ctx} {P : Program} {ops : Array Oper} {S : St} {i : Nat}
/-- A call with blocks: 'sl' the caller's numbers of the callee's blocks, the first m of them handed over. -/
theorem does_k (sl : List Nat) {g m : Nat} {args0 : List Value} {pre0 post0 : List (Nat × Blk)} {v0 : Value} (ac : AC P g m args0 pre0 v0 post0) (r : Nat := sl.length - m)
    (h : callAt P ops S i = some (g, args0.map (renA sl)) := by kernel_rfl)
    (hb : (args0.all (rokA m) && pre0.all (fun x => x.2.cells.all (rokA m)) && post0.all (fun x => x.2.cells.all (rokA (m + r))) && rokA (m + r) v0 && callChk m r (pre0.map (·.1)) (post0.map (·.1)) sl (ownKeys (pre0.map (renBlk sl)))) = true := by kernel_rfl)
    (hpreS : (pre0.map (renBlk sl)).map (fun x => S.H x.1) = (pre0.map (renBlk sl)).map (fun x => .live x.2) := by kernel_rfl)
    (hnew : (List.range' m r).map (fun j => S.H (sl.getD j 0)) = (List.range' m r).map (fun _ => .fresh) := by kernel_rfl) :
    Does C P ops i S ⟨(pre0.map (renBlk sl)).map (·.1) ++ (List.range' m r).map (fun j => sl.getD j 0), renA sl v0, writesOf (pre0.map (renBlk sl)) (post0.map (renBlk sl))⟩ := by
  obtain ⟨x, ars, ats, a, b, us, hs, hx, hu, hg, he⟩ := callAt_spec h
  simp only [Bool.and_eq_true] at hb
  obtain ⟨⟨⟨⟨h1, h2⟩, h3⟩, h4⟩, h5⟩ := hb
  exact does_callB sl hs hx hu hg ac (by rw [← he]; exact renL_map _ (fun v hv => renA_rel (List.all_eq_true.1 h1 v hv))) (renH_map _ h2) hpreS h5 hnew (renH_map _ h3) (renA_rel h4)
end
/-! the codes -/
def isSR (c : Code) (d : Bool) : Bool := match c with
  | .seq (.region _ _ d') _ => d == d'
  | _ => false
def isR (c : Code) (d : Bool) : Bool := match c with
  | .region _ _ d' => d == d'
  | _ => false
def opsL (c : Code) : Array Oper := match c with
  | .seq x _ => regOps x
  | c => regOps c
/-- all that must have come up before, by the edges -/
def ancGo (ops : Array Oper) : Nat → Nat → List (List Nat) → List (List Nat)
  | 0, _, acc => acc
  | n + 1, i, acc => ancGo ops n (i + 1) (acc ++ [(deps ops i).foldl (fun b e => (e :: acc.getD e []).foldl (fun b x => bif b.any (Nat.beq x) then b else x :: b) b) []])
def ancC (ops : Array Oper) : List (List Nat) := ancGo ops ops.size 0 []
section
variable {C : Ctx} {P : Program} {Q : Exit → St → Prop} {f : Func} {n : Nat} {S S1 : St} {steps : List Step}
theorem isSR_spec {c : Code} {d : Bool} (h : isSR c d = true) : ∃ id y, c = .seq (.region id (opsL c) d) y := by
  unfold isSR at h
  split at h
  · rename_i id ops d' y; rw [beq_iff_eq] at h; subst h; exact ⟨id, y, rfl⟩
  · cases h
theorem isR_spec {c : Code} {d : Bool} (h : isR c d = true) : ∃ id, c = .region id (opsL c) d := by
  unfold isR at h
  split at h
  · rename_i id ops d'; rw [beq_iff_eq] at h; subst h; exact ⟨id, rfl⟩
  · cases h
def rightOf (c : Code) : Code := match c with | .seq _ y => y | c => c
theorem aw_p (y : Nat) (hr : Runs C P (opsL (sb f n)) 0 S steps S1) (h : AW C P (sb f y) S1 Q) (hk : isSR (sb f n) false = true := by kernel_rfl) (hy : rightOf (sb f n) = sb f y := by kernel_rfl)
    (hd : dstB (opsL (sb f n)) C.n = true := by kernel_rfl) (hn : steps.length = (opsL (sb f n)).size := by kernel_rfl) : AW C P (sb f n) S Q := by
  obtain ⟨id, y', hc⟩ := isSR_spec hk
  have : y' = sb f y := by rw [← hy, hc]; rfl
  subst this
  exact aw_plain_seq hc rfl hd hn hr h
theorem aw_d (y : Nat) (hr : Runs C P (opsL (sb f n)) 0 S steps S1) (h : AW C P (sb f y) S1 Q) (hk : isSR (sb f n) true = true := by kernel_rfl) (hy : rightOf (sb f n) = sb f y := by kernel_rfl)
    (hm : P.follows .mixedOrders = true := by kernel_rfl) (hd : dstB (opsL (sb f n)) C.n = true := by kernel_rfl) (hn : steps.length = (opsL (sb f n)).size := by kernel_rfl)
    (hA : (ancOk (opsL (sb f n)) (ancC (opsL (sb f n))) && tempsApart (opsL (sb f n)) (ancC (opsL (sb f n))) && heapApart (opsL (sb f n)) steps (ancC (opsL (sb f n)))) = true := by kernel_rfl) : AW C P (sb f n) S Q := by
  obtain ⟨id, y', hc⟩ := isSR_spec hk
  have : y' = sb f y := by rw [← hy, hc]; rfl
  subst this
  exact aw_draws_seq (ancC (opsL (sb f n))) hc hm rfl hd hn hA hr h
theorem aw_p1 (hr : Runs C P (opsL (sb f n)) 0 S steps S1) (h : Q .normal S1) (hk : isR (sb f n) false = true := by kernel_rfl) (hd : dstB (opsL (sb f n)) C.n = true := by kernel_rfl)
    (hn : steps.length = (opsL (sb f n)).size := by kernel_rfl) : AW C P (sb f n) S Q := by
  obtain ⟨id, hc⟩ := isR_spec hk
  exact aw_plain hc hd hn hr h
theorem aw_d1 (hr : Runs C P (opsL (sb f n)) 0 S steps S1) (h : Q .normal S1) (hk : isR (sb f n) true = true := by kernel_rfl) (hm : P.follows .mixedOrders = true := by kernel_rfl) (hd : dstB (opsL (sb f n)) C.n = true := by kernel_rfl)
    (hn : steps.length = (opsL (sb f n)).size := by kernel_rfl)
    (hA : (ancOk (opsL (sb f n)) (ancC (opsL (sb f n))) && tempsApart (opsL (sb f n)) (ancC (opsL (sb f n))) && heapApart (opsL (sb f n)) steps (ancC (opsL (sb f n)))) = true := by kernel_rfl) : AW C P (sb f n) S Q := by
  obtain ⟨id, hc⟩ := isR_spec hk
  exact aw_draws (ancC (opsL (sb f n))) hm hc hd hn hA hr h
def leftOf (c : Code) : Code := match c with | .seq x _ => x | c => c
def isSeq (c : Code) : Bool := match c with | .seq _ _ => true | _ => false
def isBlk (c : Code) (id : Nat) : Bool := match c with | .block j _ => Nat.beq j id | _ => false
def isLoop (c : Code) : Bool := match c with | .loop _ => true | _ => false
def inOf (c : Code) : Code := match c with | .block _ x => x | .loop x => x | c => c
def condOf (c : Code) : Option Operand := match c with | .cond o _ _ => some o | _ => none
def thenOf (c : Code) : Code := match c with | .cond _ x _ => x | c => c
def elseOf (c : Code) : Code := match c with | .cond _ _ y => y | c => c
theorem aw_sq (x y : Nat) (h : AW C P (sb f x) S (thenQ (fun S' => AW C P (sb f y) S' Q) Q)) (hk : isSeq (sb f n) = true := by kernel_rfl) (hx : leftOf (sb f n) = sb f x := by kernel_rfl) (hy : rightOf (sb f n) = sb f y := by kernel_rfl) :
    AW C P (sb f n) S Q := by
  refine aw_seq ?_ h
  rw [← hx, ← hy]
  generalize sb f n = c at *
  cases c <;> first | rfl | cases hk
theorem aw_sk (h : Q .normal S) (hk : sb f n = .skip := by kernel_rfl) : AW C P (sb f n) S Q := aw_skip hk h
theorem aw_rt (h : Q .ret S) (hk : sb f n = .ret := by kernel_rfl) : AW C P (sb f n) S Q := aw_ret hk h
theorem aw_ex (id : Nat) (h : Q (.exit id) S) (hk : sb f n = .exit id := by kernel_rfl) : AW C P (sb f n) S Q := aw_exit hk h
theorem aw_bl (id x : Nat) (h : AW C P (sb f x) S (blockQ id Q)) (hk : isBlk (sb f n) id = true := by kernel_rfl) (hx : inOf (sb f n) = sb f x := by kernel_rfl) : AW C P (sb f n) S Q := by
  refine aw_block ?_ h
  rw [← hx]
  generalize sb f n = c at *
  cases c <;> first | cases hk | (rename_i j x; have := Nat.eq_of_beq_eq_true hk; subst this; rfl)
theorem cond_spec {c : Code} {o : Operand} (h : condOf c = some o) : c = .cond o (thenOf c) (elseOf c) := by
  unfold condOf at h
  split at h
  · cases h; rfl
  · cases h
def condV (S : St) (c : Code) : Option Value := (condOf c).bind (ev S)
theorem aw_cd (x y : Nat) (b : Bool) (h1 : b = true → AW C P (sb f x) S Q) (h2 : b = false → AW C P (sb f y) S Q) (hk : condV S (sb f n) = some (.bool b) := by kernel_rfl) (hx : thenOf (sb f n) = sb f x := by kernel_rfl) (hy : elseOf (sb f n) = sb f y := by kernel_rfl) :
    AW C P (sb f n) S Q := by
  unfold condV at hk
  obtain ⟨o, ho, hv⟩ := Option.bind_eq_some_iff.1 hk
  refine aw_cond (cond_spec ho) hv (fun e => ?_) (fun e => ?_)
  · rw [hx]; exact h1 e
  · rw [hy]; exact h2 e
theorem aw_tr (x : Nat) (h : AW C P (sb f x) S Q) (b : Bool := true) (e : b = true := by rfl) (hk : condV S (sb f n) = some (.bool b) := by kernel_rfl) (hx : thenOf (sb f n) = sb f x := by kernel_rfl) : AW C P (sb f n) S Q := by
  unfold condV at hk
  obtain ⟨o, ho, hv⟩ := Option.bind_eq_some_iff.1 hk
  refine aw_cond (cond_spec ho) hv (fun _ => ?_) (fun e' => by rw [e] at e'; cases e')
  rw [hx]; exact h
theorem aw_fl (y : Nat) (h : AW C P (sb f y) S Q) (b : Bool := false) (e : b = false := by rfl) (hk : condV S (sb f n) = some (.bool b) := by kernel_rfl) (hy : elseOf (sb f n) = sb f y := by kernel_rfl) : AW C P (sb f n) S Q := by
  unfold condV at hk
  obtain ⟨o, ho, hv⟩ := Option.bind_eq_some_iff.1 hk
  refine aw_cond (cond_spec ho) hv (fun e' => by rw [e] at e'; cases e') (fun _ => ?_)
  rw [hy]; exact h
theorem aw_lp (x : Nat) (h : AL C P (sb f x) S Q) (hk : isLoop (sb f n) = true := by kernel_rfl) (hx : inOf (sb f n) = sb f x := by kernel_rfl) : AW C P (sb f n) S Q := by
  refine aw_rounds ?_ h
  rw [← hx]
  generalize sb f n = c at *
  cases c <;> first | rfl | cases hk
end
theorem aw_w {C : Ctx} {P : Program} {Q : Exit → St → Prop} {c : Code} {S : St} (T : List (Nat × Value)) (L : List (Nat × Blk)) (h : AW C P c (mkSt C.m T L) Q) (hT : T.map (fun x => S.T x.1) = T.map (fun x => some x.2) := by kernel_rfl)
    (hL : L.map (fun x => S.H x.1) = L.map (fun x => .live x.2) := by kernel_rfl) (hc : closedB C.m T L = true := by kernel_rfl) : AW C P c S Q := aw_weak (weak_b hT hL hc) h
theorem al_w {C : Ctx} {P : Program} {Q : Exit → St → Prop} {c : Code} {S : St} (T : List (Nat × Value)) (L : List (Nat × Blk)) (h : AL C P c (mkSt C.m T L) Q) (hT : T.map (fun x => S.T x.1) = T.map (fun x => some x.2) := by kernel_rfl)
    (hL : L.map (fun x => S.H x.1) = L.map (fun x => .live x.2) := by kernel_rfl) (hc : closedB C.m T L = true := by kernel_rfl) : AL C P c S Q := al_weak (weak_b hT hL hc) h
theorem en_ret {P : Program} {fn : Func} {v : Value} {post : List (Nat × Blk)} {S : St} (vs : List Value) (h2 : packV vs = v) (h1 : resVs P S fn.results.toList = some vs := by kernel_rfl) (h3 : post.map (fun x => S.H x.1) = post.map (fun x => .live x.2) := by kernel_rfl) : EndQ P fn v post .ret S :=
  end_ret h1 h2 (allH_of h3)
theorem en_normal {P : Program} {fn : Func} {v : Value} {post : List (Nat × Blk)} {S : St} (vs : List Value) (h2 : packV vs = v) (h1 : resVs P S fn.results.toList = some vs := by kernel_rfl) (h3 : post.map (fun x => S.H x.1) = post.map (fun x => .live x.2) := by kernel_rfl) : EndQ P fn v post .normal S :=
  end_normal h1 h2 (allH_of h3)
theorem ac_in {P : Program} {f : FuncId} {fn : Func} {m : Nat} {args : List Value} {pre post : List (Nat × Blk)} {v : Value} (hf : P.funcs[f]? = some fn)
    (h : ∀ w0 W pin, AW ⟨w0, W, fn.ntmps, m, pin⟩ P (sb fn 1) (mkSt m (argsT 0 args) pre) (EndQ P fn v post)) (hb : fn.body = some (bodyOf fn) := by kernel_rfl) (hn : Nat.ble args.length fn.ntmps = true := by kernel_rfl)
    (hpo : (post.all fun x => x.2.own) = true := by kernel_rfl) : AC P f m args pre v post := ac_intro hf hb hn hpo h
end Go.Proofs.Ytigllakcfdoagaa.Am
