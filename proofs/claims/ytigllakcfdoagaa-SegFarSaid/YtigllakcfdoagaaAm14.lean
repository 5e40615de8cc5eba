import Derived.Test.YtigllakcfdoagaaAm13
import Derived.Laws.Externs
namespace Go.Proofs.Ytigllakcfdoagaa.Am
open Go
set_option linter.unusedVariables false
/-! ### 25. Functions that the model stands in for; a byte of a string -/
section
variable {C : Ctx} {P : Program} {ops : Array Oper} {S : St} {i : Nat}
def callX (ops : Array Oper) (S : St) (i : Nat) : Option (Nat × List Value) := match shapeAt ops S i with
  | some (.call ⟨.value x, ars, _⟩, true) => match ev S x, evs S ars.toList with
    | some (.func (.func g) a b), some vs => bif Nat.beq a.size 0 && Nat.beq b.size 0 then some (g, vs) else none
    | _, _ => none
  | _ => none
theorem does_x {g : Nat} {vs : List Value} {v : Value} (hc : ∀ w, (callFunc g vs.toArray).run P w = .ok (.value v) w) (h : callX ops S i = some (g, vs) := by kernel_rfl) (hf : (vs.all flatB && flatB v) = true := by kernel_rfl) :
    Does C P ops i S ⟨[], v, []⟩ := by
  unfold callX at h
  split at h
  · rename_i x ars ats hs
    split at h
    · rename_i g' a0 b0 us hx hu
      obtain ⟨hb, he⟩ := bif_some h
      cases he
      rw [Bool.and_eq_true] at hb hf
      refine .of_run hs fun o ho S' ρ a w hT hH hr => ?_
      have hx' : ev S' x = some (.func (.func g) a0 b0) := by rw [hT x (by simp [Op.operands, Call.operands])]; exact hx
      have hu' : evs S' ars.toList = some vs := by rw [evs_like (fun y hy => hT y (by simp [Op.operands, Call.operands]; exact .inr (by simpa using hy)))]; exact hu
      have hfx := ev_rel hr hx'
      obtain ⟨e1, e2⟩ := evs_rel hr hu'
      generalize hax : a.eval x = ax at hfx
      cases hfx with
      | func _ _ ys _ ds q1 _ q2 _ =>
        have z1 : ys = #[] := by apply Array.eq_empty_of_size_eq_zero; have := Nat.eq_of_beq_eq_true hb.1; omega
        have z2 : ds = #[] := by apply Array.eq_empty_of_size_eq_zero; have := Nat.eq_of_beq_eq_true hb.2; omega
        subst z1; subst z2
        have ea : ars.map a.eval = vs.toArray := by
          apply Array.ext'
          simp only [Array.toList_map]
          apply List.ext_getElem?
          intro j
          cases hj : vs[j]? with
          | none => rw [List.getElem?_eq_none_iff] at hj ⊢; simp at e1 ⊢; omega
          | some u =>
            obtain ⟨z, h1, h2⟩ := e2 j u hj
            rw [h1, h2.eq_of_only (only_flat (List.all_eq_true.1 hf.1 u (List.mem_of_getElem? hj)))]
        refine ⟨_, w, ρ, v, ?_, .inl rfl, .of_only (only_flat hf.2), hr⟩
        simp only [execOp, ho, resolve, hax, Deferred.ofValue, Sem.run_bind, Sem.run_pure, Result.andThen_ok, invoke, ea]
        have := hc w
        simpa using this
    · cases h
  · cases h
def ixAt (P : Program) (ops : Array Oper) (S : St) (i : Nat) : Option (ByteArray × Int) := match shapeAt ops S i with
  | some (.index t x y, true) => match ev S x, ev S y with
    | some (.string s), some (.int _ j) => match P.underlying t with
      | some .string => some (s, j)
      | _ => none
    | _, _ => none
  | _ => none
theorem does_ixs {s : ByteArray} {j : Int} {b : UInt8} (h0 : 0 ≤ j) (hb : s[j.toNat]? = some b) (h : ixAt P ops S i = some (s, j) := by kernel_rfl) : Does C P ops i S ⟨[], .int .u8 b.toNat, []⟩ := by
  unfold ixAt at h
  split at h
  · rename_i t x y hs
    split at h
    · rename_i s' k j' hx hy
      split at h
      · rename_i hu
        cases h
        refine .of_run hs fun o ho S' ρ a w hT hH hr => ?_
        have h1 := (ev_rel hr (by rw [hT x (by simp [Op.operands])]; exact hx)).eq_of_only (.string _)
        have h2 := (ev_rel hr (by rw [hT y (by simp [Op.operands])]; exact hy)).eq_of_only (.int _ _)
        refine ⟨_, w, ρ, .int .u8 b.toNat, ?_, .inl rfl, .int _ _, hr⟩
        simp only [execOp, ho, h1, h2, Instr.index, asIntOf, Sem.run_bind, Sem.run_pure, Result.andThen_ok, run_underlying hu, if_pos h0, hb]
      · cases h
    · cases h
  · cases h
theorem run_add64 {P : Program} {g : Nat} {fn : Func} (hf : P.funcs[g]? = some fn) (hx : (fn.name == "runtime.NumGoroutine") = false := by kernel_rfl) (hb : fn.body.isNone = true := by kernel_rfl) (hn : Extern.findNext fn = none := by kernel_rfl)
    (he : Extern.find fn = some add64Entry := by kernel_rfl) (x y c : Int) (h0 : 0 ≤ x) (h1 : 0 ≤ y) (h2 : 0 ≤ c) (h3 : c ≤ 1) : ∀ w, (callFunc g [.int .u64 x, .int .u64 y, .int .u64 c].toArray).run P w =
      .ok (.value (.tuple #[.int .u64 ((x + y + c) % 18446744073709551616), .int .u64 ((x + y + c) / 18446744073709551616)])) w := fun w => by
  rw [run_callFunc_extern hf hx hb hn he]
  have := Go.run_add64 (P := P) x y c h0 h1 h2 h3 w
  simp only [this, Result.andThen]
def sub64Entry : Array Value → Sem Value := fun args => do
  let (x, y, b) ← Extern.MathBitsCarry.three "Sub64" args
  pure (Extern.MathBitsCarry.pair ((x + Extern.MathBitsCarry.m64 - y - b) % Extern.MathBitsCarry.m64) (if x < y + b then 1 else 0))
theorem run_sub64 {P : Program} {g : Nat} {fn : Func} (hf : P.funcs[g]? = some fn) (hx : (fn.name == "runtime.NumGoroutine") = false := by kernel_rfl) (hb : fn.body.isNone = true := by kernel_rfl) (hn : Extern.findNext fn = none := by kernel_rfl)
    (he : Extern.find fn = some sub64Entry := by kernel_rfl) (x y c : Int) (h0 : 0 ≤ x) (h0' : x ≤ 18446744073709551615) (h1 : 0 ≤ y) (h1' : y ≤ 18446744073709551615) (h2 : 0 ≤ c) (h3 : c ≤ 1) : ∀ w, (callFunc g [.int .u64 x, .int .u64 y, .int .u64 c].toArray).run P w =
      .ok (.value (.tuple #[.int .u64 ((x - y - c) % 18446744073709551616), .int .u64 (-((x - y - c) / 18446744073709551616))])) w := fun w => by
  rw [run_callFunc_extern hf hx hb hn he]
  obtain ⟨X, rfl⟩ := Int.eq_ofNat_of_zero_le h0
  obtain ⟨Y, rfl⟩ := Int.eq_ofNat_of_zero_le h1
  obtain ⟨k, rfl⟩ := Int.eq_ofNat_of_zero_le h2
  have key : (sub64Entry #[.int .u64 (X : Int), .int .u64 (Y : Int), .int .u64 (k : Int)]).run P w = .ok (.tuple #[.int .u64 (((X + 18446744073709551616 - Y - k) % 18446744073709551616 : Nat) : Int), .int .u64 ((if X < Y + k then 1 else 0 : Nat) : Int)]) w := by
    have : k = 0 ∨ k = 1 := by omega
    rcases this with rfl | rfl <;> rfl
  have e : ([.int .u64 (X : Int), .int .u64 (Y : Int), .int .u64 (k : Int)] : List Value).toArray = #[.int .u64 (X : Int), .int .u64 (Y : Int), .int .u64 (k : Int)] := rfl
  rw [e, key]
  simp only [Result.andThen]
  have e1 : (((X + 18446744073709551616 - Y - k) % 18446744073709551616 : Nat) : Int) = ((X : Int) - Y - k) % 18446744073709551616 := by omega
  have e2 : ((if X < Y + k then 1 else 0 : Nat) : Int) = -(((X : Int) - Y - k) / 18446744073709551616) := by split <;> omega
  rw [e1, e2]
end
/-! what is told by variables from here on -/
theorem aw_gen {ι : Type} {C : Ctx} {P : Program} {c : Code} {S : St} {Q : Exit → St → Prop} (S1 : ι → St) (F : ι → Prop) (i : ι) (hi : F i) (T : List (Nat × Value)) (L : List (Nat × Blk)) (h : ∀ i, F i → AW C P c (S1 i) Q)
    (e : S1 i = mkSt C.m T L := by rfl) (hT : T.map (fun x => S.T x.1) = T.map (fun x => some x.2) := by kernel_rfl) (hL : L.map (fun x => S.H x.1) = L.map (fun x => .live x.2) := by kernel_rfl) (hc : closedB C.m T L = true := by kernel_rfl) : AW C P c S Q := by
  have := h i hi
  rw [e] at this
  exact aw_weak (weak_b hT hL hc) this
theorem al_joinG {ι : Type} {C : Ctx} {P : Program} {S : St} {S1 : ι → St} {x y : Code} {Q : Exit → St → Prop} {K : St → Prop} {id : Nat} (F : ι → Prop) (h : ∀ i, F i → AW C P y (S1 i) Q) (k : (∀ i, F i → AW C P y (S1 i) Q) → AL C P x S (blockQ id (thenQ K Q))) : AL C P x S (blockQ id (thenQ K Q)) := k h
end Go.Proofs.Ytigllakcfdoagaa.Am
