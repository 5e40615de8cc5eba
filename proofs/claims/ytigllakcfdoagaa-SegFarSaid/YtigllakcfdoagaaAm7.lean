import Derived.Test.YtigllakcfdoagaaAm6
namespace Go.Proofs.Ytigllakcfdoagaa.Am
open Go
/-! ### 18. A call with blocks, its side facts by the kernel -/
theorem RenL.flats {σ : Nat → Nat} {p : Nat → Prop} {l : List Value} (h : l.all flatB = true) : RenL σ p l l := .flat (fun v hv => only_flat (List.all_eq_true.1 h v hv))
theorem RenV.flatB {σ : Nat → Nat} {p : Nat → Prop} {v : Value} (h : flatB v = true) : RenV σ p v v := .flat v (only_flat h)
theorem RenV.aggL {σ : Nat → Nat} {p : Nat → Prop} {xs ys : Array Value} (h : RenL σ p xs.toList ys.toList) : RenV σ p (.agg xs) (.agg ys) :=
  .agg xs ys (by simpa using h.1) (fun i hi => h.2 i _ _ (by simp) (by have := h.1; simp at this; simp))
theorem RenV.tupleL {σ : Nat → Nat} {p : Nat → Prop} {xs ys : Array Value} (h : RenL σ p xs.toList ys.toList) : RenV σ p (.tuple xs) (.tuple ys) :=
  .tuple xs ys (by simpa using h.1) (fun i hi => h.2 i _ _ (by simp) (by have := h.1; simp at this; simp))
def ownKeys (l : List (Nat × Blk)) : List Nat := (l.filter (·.2.own)).map (·.1)
def callChk (m r : Nat) (kpre kpost sl ok : List Nat) : Bool :=
  (List.range m).all (fun j => kpre.any (Nat.beq j)) && kpre.all (fun j => Nat.blt j m) &&
  (List.range (m + r)).all (fun i => (List.range (m + r)).all fun j => Nat.beq i j || !Nat.beq (sl.getD i 0) (sl.getD j 0)) &&
  (List.range' m r).all (fun j => kpost.any (Nat.beq j)) && kpost.all (fun j => Nat.blt j (m + r) && (Nat.ble m j || ok.any (Nat.beq (sl.getD j 0))))
section
variable {C : Ctx} {P : Program} {ops : Array Oper} {i : Nat} {S : St}
theorem does_callB {x : Operand} {ars : Array Operand} {ats : Array TypeId} {g m r : Nat} {firsts caps : Array Value} {vs args0 : List Value} {pre0 post0 pre post : List (Nat × Blk)} {v0 v : Value} (sl : List Nat)
    (hs : shapeAt ops S i = some (.call ⟨.value x, ars, ats⟩, true)) (hf : ev S x = some (.func (.func g) firsts caps)) (hargs : evs S ars.toList = some vs) (hg : callB P g = true)
    (ac : AC P g m args0 pre0 v0 post0) (ha : RenL (fun j => sl.getD j 0) (· < m) args0 (firsts.toList ++ vs ++ caps.toList)) (hpre : RenH (fun j => sl.getD j 0) (· < m) pre0 pre)
    (hpreS : pre.map (fun x => S.H x.1) = pre.map (fun x => .live x.2)) (hk : callChk m r (pre0.map (·.1)) (post0.map (·.1)) sl (ownKeys pre) = true)
    (hnew : (List.range' m r).map (fun j => S.H (sl.getD j 0)) = (List.range' m r).map (fun _ => .fresh)) (hpost : RenH (fun j => sl.getD j 0) (· < m + r) post0 post)
    (hv : RenV (fun j => sl.getD j 0) (· < m + r) v0 v) :
    Does C P ops i S ⟨pre.map (·.1) ++ (List.range' m r).map (fun j => sl.getD j 0), v, writesOf pre post⟩ := by
  unfold callChk at hk
  simp only [Bool.and_eq_true] at hk
  obtain ⟨⟨⟨⟨k1, k2⟩, k3⟩, k4⟩, k5⟩ := hk
  refine does_call (C := C) (P := P) (m := m) (r := r) (fun j => sl.getD j 0) hs hf hargs hg ac ha hpre (allH_of hpreS) (fun j hj => any_beq.1 (List.all_eq_true.1 k1 j (List.mem_range.2 hj)))
    (fun j hj => blt_lt (List.all_eq_true.1 k2 j hj)) (fun a b ha hb e => ?_) (fun j h1 h2 => ⟨?_, any_beq.1 (List.all_eq_true.1 k4 j (by rw [List.mem_range'_1]; omega))⟩) hpost (fun j hj => ?_) hv
  · have := List.all_eq_true.1 (List.all_eq_true.1 k3 a (List.mem_range.2 ha)) b (List.mem_range.2 hb)
    rw [Bool.or_eq_true] at this
    rcases this with h | h
    · exact Nat.eq_of_beq_eq_true h
    · have e' : sl.getD a 0 = sl.getD b 0 := e
      rw [e'] at h; simp at h
  · have hm : j ∈ List.range' m r := by rw [List.mem_range'_1]; omega
    have gen : ∀ l : List Nat, l.map (fun j => S.H (sl.getD j 0)) = l.map (fun _ => Cell.fresh) → ∀ j, j ∈ l → S.H (sl.getD j 0) = .fresh := by
      intro l
      induction l with
      | nil => intro _ j hj; cases hj
      | cons x l ih =>
        intro h j hj
        simp only [List.map_cons, List.cons.injEq] at h
        cases hj with
        | head => exact h.1
        | tail _ hj => exact ih h.2 j hj
    exact gen _ hnew j hm
  · have := List.all_eq_true.1 k5 j hj
    rw [Bool.and_eq_true, Bool.or_eq_true] at this
    refine ⟨blt_lt this.1, fun hlt => ?_⟩
    rcases this.2 with h | h
    · have := Nat.le_of_ble_eq_true h; omega
    · have := any_beq.1 h
      unfold ownKeys at this
      obtain ⟨y, hy, he⟩ := List.mem_map.1 this
      obtain ⟨y1, y2⟩ := List.mem_filter.1 hy
      exact ⟨y.2, by rw [← he]; exact y1, y2⟩
end

theorem ldV_map {P : Program} {α : Type} {t : TypeId} {f : α → Value} {xs : List α} {j : Nat} (d : α) (ha : aggB P t = some false) (hi : (P.info? t).isSome = true) (h : j < xs.length) : ldV P t (xs.map f) j = some (f (xs.getD j d)) := by
  unfold ldV
  obtain ⟨inf, hinf⟩ := Option.isSome_iff_exists.1 hi
  rw [hinf]
  simp only [ha, List.getElem?_map]
  simp [List.getD, List.getElem?_eq_getElem h]
theorem flats_map {α : Type} {f : α → Value} (h : ∀ x, flatB (f x) = true) (xs : List α) : (xs.map f).all flatB = true := by
  rw [List.all_eq_true]
  intro v hv
  obtain ⟨x, _, rfl⟩ := List.mem_map.1 hv
  exact h x
def i64v (x : Int) : Value := .int .i64 x

section
variable {C : Ctx} {P : Program} {ops : Array Oper} {i : Nat} {S : St}
theorem does_quo {t t2 : TypeId} {x y : Operand} {k : IntKind} {a b : Int} (hs : shapeAt ops S i = some (.binOp .quo t x y t2, true)) (hx : ev S x = some (.int k a)) (hy : ev S y = some (.int k b)) (hb : b ≠ 0) :
    Does C P ops i S ⟨[], .int k (IntKind.wrap k (Int.tdiv a b)), []⟩ :=
  .of_run hs fun o ho S' ρ ac w hT _ hr => by
    have h1 := (ev_rel hr (by rw [hT x (by simp [Op.operands])]; exact hx)).eq_of_only (.int _ _)
    have h2 := (ev_rel hr (by rw [hT y (by simp [Op.operands])]; exact hy)).eq_of_only (.int _ _)
    exact ⟨_, w, ρ, .int k (IntKind.wrap k (Int.tdiv a b)), by simp [execOp, ho, h1, h2, eqGuard, binOp, Op.intDiv, hb], .inl rfl, .int _ _, hr⟩
theorem does_rem {t t2 : TypeId} {x y : Operand} {k : IntKind} {a b : Int} (hs : shapeAt ops S i = some (.binOp .rem t x y t2, true)) (hx : ev S x = some (.int k a)) (hy : ev S y = some (.int k b)) (hb : b ≠ 0) :
    Does C P ops i S ⟨[], .int k (Int.tmod a b), []⟩ :=
  .of_run hs fun o ho S' ρ ac w hT _ hr => by
    have h1 := (ev_rel hr (by rw [hT x (by simp [Op.operands])]; exact hx)).eq_of_only (.int _ _)
    have h2 := (ev_rel hr (by rw [hT y (by simp [Op.operands])]; exact hy)).eq_of_only (.int _ _)
    exact ⟨_, w, ρ, .int k (Int.tmod a b), by simp [execOp, ho, h1, h2, eqGuard, binOp, Op.intDiv, hb], .inl rfl, .int _ _, hr⟩
end

def skipB (ops : Array Oper) (S : St) (i : Nat) : Bool := match shapeAt ops S i with
  | some (_, false) => true
  | _ => false
theorem does_skipB {C : Ctx} {P : Program} {ops : Array Oper} {i : Nat} {S : St} (h : skipB ops S i = true) : Does C P ops i S ⟨[], undef, []⟩ := by
  unfold skipB at h
  split at h
  · rename_i op e; exact does_skip e
  · cases h
theorem lcons {α : Type} {a b : α} {l l' : List α} (h : a = b) (t : l = l') : a :: l = b :: l' := by rw [h, t]

theorem bb1 (b : Bool) : (b == true) = b := by cases b <;> rfl
theorem bb2 (b : Bool) : (b == false) = !b := by cases b <;> rfl
theorem bb3 (b : Bool) : (!(b == true)) = !b := by cases b <;> rfl
theorem bb4 (b : Bool) : (!(b == false)) = b := by cases b <;> rfl
theorem bb5 (b : Bool) : (true == b) = b := by cases b <;> rfl
theorem bb6 (b : Bool) : (false == b) = !b := by cases b <;> rfl
theorem bb7 (b : Bool) : (!(true == b)) = !b := by cases b <;> rfl
theorem bb8 (b : Bool) : (!(false == b)) = b := by cases b <;> rfl
theorem not_t {b : Bool} (h : b = true) : (!b) = false := by rw [h]; rfl
theorem not_f {b : Bool} (h : b = false) : (!b) = true := by rw [h]; rfl
theorem nn (b : Bool) : (!!b) = b := by cases b <;> rfl

theorem bx1 {a b : Bool} (h : (a == b) = true) : (a = true ↔ b = true) := by cases a <;> cases b <;> simp_all
theorem bx2 {a b : Bool} (h : (a == b) = false) : ¬ (a = true ↔ b = true) := by cases a <;> cases b <;> simp_all
theorem bx3 {a b : Bool} (h : (!(a == b)) = true) : ¬ (a = true ↔ b = true) := by cases a <;> cases b <;> simp_all
theorem bx4 {a b : Bool} (h : (!(a == b)) = false) : (a = true ↔ b = true) := by cases a <;> cases b <;> simp_all
end Go.Proofs.Ytigllakcfdoagaa.Am
