import Derived.Test.YtigllakcfdoagaaAm4
namespace Go.Proofs.Ytigllakcfdoagaa.Am
open Go
/-! ### 16. Words for the generator -/
section
variable {C : Ctx} {P : Program} {S S1 : St} {Q : Exit → St → Prop}
theorem aw_sub {c : Code} (h : AW C P (sub c []) S Q) : AW C P c S Q := by
  have : sub c [] = c := by cases c <;> rfl
  rw [this] at h; exact h
theorem aw_plain_seq {c r y : Code} {id : Nat} {ops : Array Oper} {steps : List Step} (hc : c = .seq r y) (hr0 : r = .region id ops false) (hd : dstB ops C.n = true) (hn : steps.length = ops.size)
    (hr : Runs C P ops 0 S steps S1) (hq : AW C P y S1 Q) : AW C P c S Q := aw_seq hc (aw_plain hr0 hd hn hr hq)
theorem aw_draws_seq {c r y : Code} {id : Nat} {ops : Array Oper} {steps : List Step} (A : List (List Nat)) (hc : c = .seq r y) (hm : P.follows .mixedOrders = true) (hr0 : r = .region id ops true) (hd : dstB ops C.n = true)
    (hn : steps.length = ops.size) (hA : (ancOk ops A && tempsApart ops A && heapApart ops steps A) = true) (hr : Runs C P ops 0 S steps S1) (hq : AW C P y S1 Q) : AW C P c S Q :=
  aw_seq hc (aw_draws A hm hr0 hd hn hA hr hq)
theorem aw_true' {c x y : Code} {o : Operand} {b : Bool} (hc : c = .cond o x y) (ho : ev S o = some (.bool b)) (hb : b = true) (h1 : AW C P x S Q) : AW C P c S Q := aw_cond hc ho (fun _ => h1) (fun e => by rw [hb] at e; cases e)
theorem aw_false' {c x y : Code} {o : Operand} {b : Bool} (hc : c = .cond o x y) (ho : ev S o = some (.bool b)) (hb : b = false) (h1 : AW C P y S Q) : AW C P c S Q := aw_cond hc ho (fun e => by rw [hb] at e; cases e) (fun _ => h1)
theorem aw_join {c y : Code} {S1 : St} (h : AW C P y S1 Q) (k : AW C P y S1 Q → AW C P c S Q) : AW C P c S Q := k h
theorem aw_joinF {c y : Code} {S1 : St} (F : Prop) (h : F → AW C P y S1 Q) (k : (F → AW C P y S1 Q) → AW C P c S Q) : AW C P c S Q := k h
theorem aw_joinTF {c y : Code} {S1 : St} {K : St → Prop} (F : Prop) (h : F → AW C P y S1 Q) (k : (F → AW C P y S1 Q) → AW C P c S (thenQ K Q)) : AW C P c S (thenQ K Q) := k h
theorem aw_joinT {c y : Code} {S1 : St} {K : St → Prop} (h : AW C P y S1 Q) (k : AW C P y S1 Q → AW C P c S (thenQ K Q)) : AW C P c S (thenQ K Q) := k h
theorem then_normal {K : St → Prop} (h : K S) : thenQ K Q .normal S := h
theorem then_ret {K : St → Prop} (h : Q .ret S) : thenQ K Q .ret S := h
theorem then_exit {K : St → Prop} {id : Nat} (h : Q (.exit id) S) : thenQ K Q (.exit id) S := h
theorem block_normal {id : Nat} (h : Q .normal S) : blockQ id Q .normal S := h
theorem block_ret {id : Nat} (h : Q .ret S) : blockQ id Q .ret S := h
theorem block_exit {id : Nat} (h : Q .normal S) : blockQ id Q (.exit id) S := ⟨fun _ => h, fun e => absurd rfl e⟩
theorem block_other {id id' : Nat} (hne : id' ≠ id) (h : Q (.exit id') S) : blockQ id Q (.exit id') S := ⟨fun e => absurd e hne, fun _ => h⟩
end

/-! a state that says less, by the kernel -/
def valB (m : Nat) (ks : List Nat) : Value → Bool
  | .pointer (some ⟨k, _, none⟩) => Nat.blt k m || ks.any (Nat.beq k)
  | .slice (some ⟨k, _, none⟩) _ _ => Nat.blt k m || ks.any (Nat.beq k)
  | v => flat1 v
def valsB (m : Nat) (ks : List Nat) : Value → Bool
  | .agg xs => xs.toList.all (valB m ks)
  | .tuple xs => xs.toList.all (fun v => valB m ks v || match v with
    | .agg ys => ys.toList.all (valB m ks)
    | _ => false)
  | .func _ xs ys => xs.toList.all (valB m ks) && ys.toList.all (valB m ks)
  | v => valB m ks v
theorem valB_only {m : Nat} {L : List (Nat × Blk)} {v : Value} (h : valB m (L.map (·.1)) v = true) : Only (keyB m L) v := by
  unfold valB at h
  split at h
  · exact .ptr _ _ h
  · exact .slice _ _ _ _ h
  · exact only_flat1 h
theorem valsB_only {m : Nat} {L : List (Nat × Blk)} {v : Value} (h : valsB m (L.map (·.1)) v = true) : Only (keyB m L) v := by
  unfold valsB at h
  split at h
  · exact .agg _ (only_all fun v hv => valB_only (List.all_eq_true.1 h v hv))
  · refine .tuple _ (only_all fun v hv => ?_)
    have := List.all_eq_true.1 h v hv
    rw [Bool.or_eq_true] at this
    rcases this with h1 | h1
    · exact valB_only h1
    · split at h1
      · exact .agg _ (only_all fun u hu => valB_only (List.all_eq_true.1 h1 u hu))
      · cases h1
  · rw [Bool.and_eq_true] at h
    exact .func _ _ _ (only_all fun v hv => valB_only (List.all_eq_true.1 h.1 v hv)) (only_all fun v hv => valB_only (List.all_eq_true.1 h.2 v hv))
  · exact valB_only h
def closedB (m : Nat) (T : List (Nat × Value)) (L : List (Nat × Blk)) : Bool :=
  T.all (fun x => valsB m (L.map (·.1)) x.2) && L.all (fun x => x.2.cells.all (valsB m (L.map (·.1))))
theorem closedT_of {p : Nat → Prop} : ∀ {T : List (Nat × Value)}, (∀ t v, (t, v) ∈ T → Only p v) → ClosedT p T
  | [], _ => trivial
  | (t, v) :: _, h => ⟨h t v List.mem_cons_self, closedT_of (fun t' v' hm => h t' v' (List.mem_cons_of_mem _ hm))⟩
theorem closedL_of {p : Nat → Prop} : ∀ {L : List (Nat × Blk)}, (∀ k b, (k, b) ∈ L → ∀ v, v ∈ b.cells → Only p v) → ClosedL p L
  | [], _ => trivial
  | (k, b) :: _, h => ⟨h k b List.mem_cons_self, closedL_of (fun k' b' hm => h k' b' (List.mem_cons_of_mem _ hm))⟩
theorem allT_of {S : St} : ∀ {T : List (Nat × Value)}, T.map (fun x => S.T x.1) = T.map (fun x => some x.2) → AllT S T
  | [], _ => trivial
  | (_, _) :: _, h => by simp only [List.map_cons, List.cons.injEq] at h; exact ⟨h.1, allT_of h.2⟩
theorem allH_of {S : St} : ∀ {L : List (Nat × Blk)}, L.map (fun x => S.H x.1) = L.map (fun x => .live x.2) → AllH S L
  | [], _ => trivial
  | (_, _) :: _, h => by simp only [List.map_cons, List.cons.injEq] at h; exact ⟨h.1, allH_of h.2⟩
theorem weak_b {C : Ctx} {S : St} {T : List (Nat × Value)} {L : List (Nat × Blk)} (hT : T.map (fun x => S.T x.1) = T.map (fun x => some x.2)) (hL : L.map (fun x => S.H x.1) = L.map (fun x => .live x.2))
    (hc : closedB C.m T L = true) : Weak C S (mkSt C.m T L) := by
  unfold closedB at hc
  rw [Bool.and_eq_true] at hc
  exact weak_to (allT_of hT) (allH_of hL) (closedT_of fun t v hm => valsB_only (List.all_eq_true.1 hc.1 (t, v) hm))
    (closedL_of fun k b hm v hv => valsB_only (List.all_eq_true.1 (List.all_eq_true.1 hc.2 (k, b) hm) v hv))

/-! numbers -/
theorem wrap_i64 {n : Int} (h1 : -9223372036854775808 ≤ n) (h2 : n ≤ 9223372036854775807) : IntKind.wrap .i64 n = n := by
  simp only [IntKind.wrap, IntKind.bits, IntKind.signed]
  have : (2 : Int) ^ 64 = 18446744073709551616 := by decide
  have : (2 : Int) ^ (64 - 1) = 9223372036854775808 := by decide
  simp only [*, Bool.true_and]
  split
  · rename_i h; simp only [decide_eq_true_eq] at h; omega
  · rename_i h; simp only [decide_eq_true_eq] at h; omega
theorem wrap_u64 {n : Int} (h1 : 0 ≤ n) (h2 : n ≤ 18446744073709551615) : IntKind.wrap .u64 n = n := by
  simp only [IntKind.wrap, IntKind.bits, IntKind.signed]
  have : (2 : Int) ^ 64 = 18446744073709551616 := by decide
  simp only [this, Bool.false_and, Bool.false_eq_true, if_false]
  omega
end Go.Proofs.Ytigllakcfdoagaa.Am
