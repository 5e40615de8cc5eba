import Derived.Test.YtadifmimefmcnaaM3
import Derived.Test.YtadifmimefmcnaaProg
import Derived.Test.YtadifmimefmcnaaM2
set_option linter.unusedVariables false
set_option linter.unusedSimpArgs false
namespace Go.Proofs.Ytadifmimefmcnaa.Am
open Go
section
variable {C : Ctx} {P : Program} {ops : Array Oper} {i : Nat} {S : St}
/-- A call that only reads the blocks handed over (of some of them it asks nothing but that they are there), and returns new ones. -/
theorem does_lendN {x : Operand} {ars : Array Operand} {ats : Array TypeId} {g m r : Nat} {firsts caps : Array Value} {vs args0 : List Value} {pre0 post0 post : List (Nat × Blk)} {v0 v : Value} (σ : Nat → Nat) (reads : List Nat)
    (hs : shapeAt ops S i = some (.call ⟨.value x, ars, ats⟩, true)) (hf : ev S x = some (.func (.func g) firsts caps)) (hargs : evs S ars.toList = some vs) (hg : callB P g = true)
    (ac : AC P g m args0 pre0 v0 post0) (ha : RenL σ (· < m) args0 (firsts.toList ++ vs ++ caps.toList)) (hro : ∀ k b, (k, b) ∈ pre0 → k < m ∧ b.own = false) (hlow : ∀ j, j < m → ∃ b, (j, b) ∈ pre0)
    (hH : ∀ j b0, (j, b0) ∈ pre0 → σ j ∈ reads ∧ ∃ b, S.H (σ j) = .live b ∧ b.step = b0.step ∧ (b0.cells = [] ∨ RenL σ (· < m) b0.cells b.cells))
    (hpo : ∀ k b, (k, b) ∈ post0 → m ≤ k ∧ k < m + r) (hkeys : ∀ k, m ≤ k → k < m + r → k ∈ post0.map (·.1)) (hinj : ∀ p q, m ≤ p → p < m + r → m ≤ q → q < m + r → σ p = σ q → p = q) (hnew : ∀ j, m ≤ j → j < m + r → S.H (σ j) = .fresh)
    (hpost : RenH σ (· < m + r) post0 post) (hv : RenV σ (· < m + r) v0 v) :
    Does C P ops i S ⟨reads ++ (List.range' m r).map σ, v, writesOf [] post⟩ := by
  intro o ho hd S' ρ a w K Q hT hH' hr hK
  obtain ⟨hop, hg0⟩ := shape_spec hs ho
  have hg' : guardOf ops S' o = some true := by rw [guard_like hT]; exact hg0
  have hw := guard_wanted hr hg'
  have hevx : ev S' x = some (.func (.func g) firsts caps) := by rw [ev_like hT (by rw [hop]; simp [Op.operands, Call.operands])]; exact hf
  have hevs : evs S' ars.toList = some vs := by rw [evs_like (fun y hy => ev_like hT (by rw [hop]; simp [Op.operands, Call.operands]; exact .inr (by simpa using hy)))]; exact hargs
  have hHS : ∀ j b0, (j, b0) ∈ pre0 → ∃ b, S'.H (σ j) = .live b ∧ b.step = b0.step ∧ (b0.cells = [] ∨ RenL σ (· < m) b0.cells b.cells) := fun j b0 hj => by
    obtain ⟨h1, b, h2, h3⟩ := hH j b0 hj
    exact ⟨b, by rw [hH' _ (List.mem_append_left _ h1)]; exact h2, h3⟩
  have hnew' : ∀ j, m ≤ j → j < m + r → S'.H (σ j) = .fresh := fun j h1 h2 => by
    rw [hH' (σ j) (List.mem_append_right _ (List.mem_map.2 ⟨j, by rw [List.mem_range'_1]; omega, rfl⟩))]; exact hnew j h1 h2
  have hfx := ev_rel hr hevx
  obtain ⟨ea1, ea2⟩ := evs_rel hr hevs
  generalize hax : a.eval x = ax at hfx
  cases hfx with
  | func _ _ ys _ ds e1 v1 e2 v2 =>
    unfold wpOp
    simp only [ho, hw, if_true]
    refine .inl ?_
    unfold Oper.wp
    have hex : (execOp a.eval o).run P w = .ok (.enter g ((ys ++ (ars.map a.eval)) ++ ds)) w := by
      unfold callB at hg
      split at hg
      · rename_i fn hfn
        rw [Bool.and_eq_true] at hg
        have n1 : (fn.name == "runtime.NumGoroutine") = false := by simpa using hg.1
        have n2 : fn.body.isNone = false := by cases hb : fn.body with | none => rw [hb] at hg; simp at hg | some _ => rfl
        simp only [execOp, hop, resolve, hax, Deferred.ofValue, Sem.run_bind, Sem.run_pure, Result.andThen_ok, invoke, callFunc, run_program, hfn, n1, n2, Bool.false_eq_true, if_false]
      · cases hg
    rw [hex]
    simp only [Oper.upon]
    let ρ0 : Ren := fun j => bif Nat.blt j m then ρ (σ j) else none
    have hρ0 : ∀ j, j < m → ρ0 j = ρ (σ j) := fun j hj => by simp only [ρ0, show Nat.blt j m = true from Nat.ble_eq_true_of_le hj, cond_true]
    have hall : (firsts.toList ++ vs ++ caps.toList).length = ((ys ++ ars.map a.eval) ++ ds).size ∧ ∀ (j : Nat) (u : Value), (firsts.toList ++ vs ++ caps.toList)[j]? = some u → ∃ z, ((ys ++ ars.map a.eval) ++ ds)[j]? = some z ∧ VRel ρ u z := by
      have pw : ∀ (xs zs : Array Value) (e : xs.size = zs.size) (_ : ∀ i (hi : i < xs.size), VRel ρ xs[i] (zs[i]'(e ▸ hi))), ∀ (j : Nat) (u : Value), xs.toList[j]? = some u → ∃ z, zs.toList[j]? = some z ∧ VRel ρ u z := by
        intro xs zs e hv j u hu
        simp only [Array.getElem?_toList] at hu ⊢
        obtain ⟨hj, he⟩ := Array.getElem?_eq_some_iff.1 hu
        exact ⟨zs[j]'(e ▸ hj), Array.getElem?_eq_getElem (e ▸ hj), by rw [← he]; exact hv j hj⟩
      have app : ∀ (l1 l2 m1 m2 : List Value), l1.length = m1.length → (∀ (j : Nat) (u : Value), l1[j]? = some u → ∃ z, m1[j]? = some z ∧ VRel ρ u z) →
          (∀ (j : Nat) (u : Value), l2[j]? = some u → ∃ z, m2[j]? = some z ∧ VRel ρ u z) → ∀ (j : Nat) (u : Value), (l1 ++ l2)[j]? = some u → ∃ z, (m1 ++ m2)[j]? = some z ∧ VRel ρ u z := by
        intro l1 l2 m1 m2 hl h1 h2 j u hu
        rcases Nat.lt_or_ge j l1.length with hlt | hge
        · rw [List.getElem?_append_left hlt] at hu
          rw [List.getElem?_append_left (by omega)]; exact h1 j u hu
        · rw [List.getElem?_append_right hge] at hu
          rw [List.getElem?_append_right (by omega), ← hl]; exact h2 _ u hu
      have ea2' : ∀ (j : Nat) (u : Value), vs[j]? = some u → ∃ z, (ars.map a.eval).toList[j]? = some z ∧ VRel ρ u z := fun j u hu => by simpa using ea2 j u hu
      refine ⟨by simp at ea1 ⊢; omega, fun j u hu => ?_⟩
      have := app (firsts.toList ++ vs) caps.toList ((ys ++ ars.map a.eval).toList) ds.toList (by simp at ea1 ⊢; omega)
        (by rw [Array.toList_append]; exact app firsts.toList vs ys.toList (ars.map a.eval).toList (by simpa using e1) (pw firsts ys e1 v1) ea2') (pw caps ds e2 v2) j u hu
      rw [← Array.getElem?_toList, Array.toList_append]; exact this
    have hno : ∀ b, ¬ OwnSet ρ0 pre0 b := by
      rintro b ⟨k, b0, sp, hm, ho', _⟩
      rw [(hro k b0 hm).2] at ho'; cases ho'
    have hcall := ac ρ0 w ((ys ++ ars.map a.eval) ++ ds) (by rw [ha.1]; exact hall.1) (fun j u hu => by
        obtain ⟨hj, _⟩ := List.getElem?_eq_some_iff.1 hu
        have hj' : j < (firsts.toList ++ vs ++ caps.toList).length := by have := ha.1; omega
        obtain ⟨z, h1, h2⟩ := hall.2 j _ (List.getElem?_eq_getElem hj')
        exact ⟨z, h1, (ha.2 j u _ hu (List.getElem?_eq_getElem hj')).into (fun q hq => hρ0 q hq) h2⟩)
      ⟨fun j b0 hj => by
          obtain ⟨b, hm, hst, hb⟩ := hHS j b0 hj
          obtain ⟨sp, h1, h2⟩ := hr.heap.live (σ j) b hm
          refine ⟨sp, by rw [hρ0 j (hro j b0 hj).1]; exact h1, ?_⟩
          have h3 : BlkOk ρ w sp ⟨b.cells, b0.elem, false, b.step⟩ := by
            have := h2.lend
            rw [BlkOk.ro (by simp)] at this ⊢
            exact this
          rcases hb with he | hb
          · rw [BlkOk.ro (by rw [(hro j b0 hj).2]; decide)]
            rw [BlkOk.ro (by simp)] at h3
            exact ⟨h3.1.trans hst, .inl he, fun i u hu => by rw [he] at hu; simp at hu⟩
          · exact RenB.into (b0 := b0) (b := ⟨b.cells, b0.elem, false, b.step⟩) (fun q hq => hρ0 q hq) ⟨rfl, (hro j b0 hj).2.symm, hst, hb⟩ h3,
        fun j j' b0 b0' sp sp' hne hj hj' ho' _ _ _ => by rw [(hro j b0 hj).2] at ho'; cases ho'⟩
      (fun j hj => by
        obtain ⟨b0, hb0⟩ := hlow j hj
        obtain ⟨b, hm, _⟩ := hHS j b0 hb0
        obtain ⟨sp, h1, _⟩ := hr.heap.live (σ j) b hm
        exact ⟨sp, by rw [hρ0 _ hj]; exact h1⟩)
      (fun j hj => by simp only [ρ0, show Nat.blt j m = false from by cases hb : Nat.blt j m with | false => rfl | true => have := blt_lt hb; omega, cond_false])
    refine Calls.mono hcall ?_
    rintro e w' ⟨v', ρ1, rfl, hv', hsame, hpost', hnb, hfr⟩
    let inv : Nat → Option Nat := fun k => (List.range' m r).find? (fun j => Nat.beq k (σ j))
    let ρ2 : Ren := fun k => match inv k with
      | some j => ρ1 j
      | none => ρ k
    have hinv : ∀ k j, inv k = some j → k = σ j ∧ m ≤ j ∧ j < m + r := fun k j h => by
      have h1 := List.find?_some h
      have h2 := List.mem_of_find?_eq_some h
      rw [List.mem_range'_1] at h2
      exact ⟨Nat.eq_of_beq_eq_true h1, h2.1, h2.2⟩
    have hinv2 : ∀ j, m ≤ j → j < m + r → inv (σ j) = some j := fun j h1 h2 => by
      cases hf : inv (σ j) with
      | none =>
        have := List.find?_eq_none.1 hf j (by rw [List.mem_range'_1]; omega)
        simp at this
      | some j' =>
        obtain ⟨e1, e2, e3⟩ := hinv _ _ hf
        rw [hinj j j' h1 h2 e2 e3 e1]
    have hsame2 : ∀ k, k ∉ (List.range' m r).map σ → ρ2 k = ρ k := fun k hk => by
      have : inv k = none := List.find?_eq_none.2 (fun j hj hb => hk (List.mem_map.2 ⟨j, hj, (Nat.eq_of_beq_eq_true hb).symm⟩))
      simp only [ρ2, this]
    have hlow2 : ∀ j, j < m → ρ2 (σ j) = ρ (σ j) := fun j hj => hsame2 _ (fun hm => by
      obtain ⟨j', h1, h2⟩ := List.mem_map.1 hm
      rw [List.mem_range'_1] at h1
      obtain ⟨b0, hb0⟩ := hlow j hj
      obtain ⟨b, hb, _⟩ := hHS j b0 hb0
      rw [← h2, hnew' j' (by omega) (by omega)] at hb; cases hb)
    have hρ1 : ∀ j, j < m + r → ρ1 j = ρ2 (σ j) := fun j hj => by
      rcases Nat.lt_or_ge j m with hlt | hge
      · rw [hsame j hlt, hρ0 j hlt, hlow2 j hlt]
      · simp only [ρ2, hinv2 j hge hj]
    have hkeyPost : ∀ k, k ∈ post.map (·.1) → ∃ j, k = σ j ∧ m ≤ j ∧ j < m + r := fun k hk => by
      obtain ⟨x1, hx1, rfl⟩ := List.mem_map.1 hk
      obtain ⟨j, b0, h1, h2, _⟩ := hpost.right (k := x1.1) (b := x1.2) hx1
      exact ⟨j, h1, hpo j b0 h2⟩
    have hOwn : ∀ b, ¬ OwnSet ρ [] b := by
      rintro b ⟨j, b0, sp, hm, _⟩
      exact List.not_mem_nil hm
    obtain ⟨_, hrel⟩ := Rel.call (ρ' := ρ2) (w' := w') hr (pre := []) (post := post) (new := (List.range' m r).map σ) trivial
      (fun k hk => by
        obtain ⟨j, h1, rfl⟩ := List.mem_map.1 hk
        rw [List.mem_range'_1] at h1
        refine ⟨hnew' j h1.1 (by omega), ?_⟩
        obtain ⟨x0, hx0, he⟩ := List.mem_map.1 (hkeys j h1.1 (by omega))
        obtain ⟨b, hm, _⟩ := hpost.left (j := x0.1) (b0 := x0.2) hx0
        rw [← he]
        exact List.mem_map.2 ⟨_, hm, rfl⟩)
      (fun k hk => by
        obtain ⟨j, rfl, h1, h2⟩ := hkeyPost k hk
        exact .inl (List.mem_map.2 ⟨j, by rw [List.mem_range'_1]; omega, rfl⟩))
      hsame2
      ⟨fun k b hk => by
          obtain ⟨j, b0, rfl, hm, hb⟩ := hpost.right hk
          obtain ⟨sp, h1, h2⟩ := hpost'.live j b0 hm
          have hj := (hpo j b0 hm).2
          exact ⟨sp, by rw [← hρ1 j hj]; exact h1, hb.out (fun q hq => hρ1 q hq) h2⟩,
        fun k k' b b' sp sp' hne hk hk' ho' nv h1 h2 => by
          obtain ⟨j, b0, rfl, hm, hb⟩ := hpost.right hk
          obtain ⟨j', b0', rfl, hm', hb'⟩ := hpost.right hk'
          rw [← hρ1 j (hpo j b0 hm).2] at h1
          rw [← hρ1 j' (hpo j' b0' hm').2] at h2
          exact hpost'.apart j j' b0 b0' sp sp' (fun e => hne (by rw [e])) hm hm' (by rw [← hb.own]; exact ho') (fun v => nv (hb'.void.1 v)) h1 h2⟩
      (fun k sp hk hsp => by
        obtain ⟨j, h1, rfl⟩ := List.mem_map.1 hk
        rw [List.mem_range'_1] at h1
        obtain ⟨x0, hx0, he⟩ := List.mem_map.1 (hkeys j h1.1 (by omega))
        subst he
        rw [← hρ1 x0.1 (by omega)] at hsp
        exact (hnb x0.1 x0.2 sp h1.1 hx0 hsp).imp id (fun h => absurd h (hno _)))
      ⟨hfr.os, hfr.tape, hfr.output, hfr.size, fun b hb hW => hfr.block b hb (hno b)⟩
    exact hK ρ2 _ _ (Rel.put hrel hd (hv.out (fun q hq => hρ1 q hq) hv'))
end
/-- the first block of a function is a part of a longer row that is only read -/
theorem AC.shift {P : Program} {f : FuncId} {xs : List Value} {e : TypeId} {p n : Nat} {v : Value} {post : List (Nat × Blk)} (hn : p + n ≤ xs.length) (h1 : 1 ≤ n) (hfl : xs.all flatB = true) (h : AC P f 1 [.slice (some ⟨0, 0, none⟩) n 0] [(0, ⟨(xs.drop p).take n, e, false, 1⟩)] v post)
    (hv : Only (fun k => 1 ≤ k) v) (hp : ∀ k b, (k, b) ∈ post → 1 ≤ k ∧ ∀ u, u ∈ b.cells → Only (fun k => 1 ≤ k) u) : AC P f 1 [.slice (some ⟨0, p, none⟩) n 0] [(0, ⟨xs, e, false, 1⟩)] v post := by
  intro ρ w args' hl ha hpre hlow hhigh
  obtain ⟨a0, e0, r0⟩ := ha 0 _ rfl
  obtain ⟨n', hn'⟩ : ∃ n', n' = n := ⟨n, rfl⟩
  rw [← hn'] at r0
  cases r0 with
  | slice0 => omega
  | slice _ _ _ _ cap sp hk hc hs =>
    subst hn'
    obtain ⟨sp', e1, bok⟩ := hpre.live 0 _ List.mem_cons_self
    rw [hk] at e1; cases e1
    have bok' := bok
    rw [BlkOk.ro (by simp)] at bok'
    obtain ⟨hst, hlt, hcc⟩ := bok'
    have hst : sp.step = 1 := hst
    rw [hst] at hs
    let ρ0 : Ren := upd ρ 0 (some ⟨sp.block, sp.off + p, sp.size - p, 1⟩)
    have hno0 : ∀ b, ¬ OwnSet ρ0 [(0, (⟨(xs.drop p).take n', e, false, 1⟩ : Blk))] b := by
      rintro b ⟨k, b, sp, hm, ho, _⟩
      simp only [List.mem_cons, List.not_mem_nil, or_false, Prod.mk.injEq] at hm
      rw [hm.2] at ho; cases ho
    have hbk : BlkOk ρ0 w ⟨sp.block, sp.off + p, sp.size - p, 1⟩ ⟨(xs.drop p).take n', e, false, 1⟩ := by
      rw [BlkOk.ro (by simp)]
      refine ⟨rfl, hlt.elim (fun h => ?_) .inr, fun i u hu => ?_⟩
      · have : xs = [] := h
        rw [this] at hn
        simp at hn; omega
      · have hu : ((xs.drop p).take n')[i]? = some u := hu
        rw [List.getElem?_take] at hu
        split at hu
        · rw [List.getElem?_drop] at hu
          obtain ⟨v, q1, q2⟩ := hcc (p + i) u hu
          have ou := only_flat (p := fun _ => False) (List.all_eq_true.1 hfl u (List.mem_of_getElem? hu))
          refine ⟨v, by show w.cell? ⟨sp.block, sp.off + p + i, none⟩ = _; rw [Nat.add_assoc]; exact q1, ?_⟩
          rw [q2.eq_of_only ou]; exact .of_only ou
        · cases hu
    have hargs : args' = #[.slice (some ⟨sp.block, sp.off + p, none⟩) n' cap] := by
      apply Array.ext'
      apply List.ext_getElem?
      intro q
      match q with
      | 0 => simpa using e0
      | q + 1 => rw [List.getElem?_eq_none_iff.2 (by simp at hl ⊢; omega)]; simp
    subst hargs
    have hhi : ∀ k, 1 ≤ k → ρ0 k = none := fun k hk => by
      show upd ρ 0 _ k = none
      rw [upd_ne _ _ (by omega)]; exact hhigh k hk
    refine (h ρ0 w #[.slice (some ⟨sp.block, sp.off + p, none⟩) n' cap] rfl (fun j u hu => ?_) ⟨fun k b hk => ?_, fun k k' b b' sp1 sp2 hne hk hk' ho => ?_⟩ (fun k hk => ?_) hhi).mono ?_
    · match j with
      | 0 =>
        simp only [List.getElem?_cons_zero, Option.some.injEq] at hu
        subst hu
        refine ⟨_, rfl, ?_⟩
        have := VRel.slice (ρ := ρ0) 0 0 n' 0 cap ⟨sp.block, sp.off + p, sp.size - p, 1⟩ (upd_self _ _ _) hc (by show 0 + cap * 1 ≤ sp.size - p; omega)
        exact this
      | j + 1 => simp at hu
    · simp only [List.mem_cons, List.not_mem_nil, or_false, Prod.mk.injEq] at hk
      obtain ⟨rfl, rfl⟩ := hk
      exact ⟨_, upd_self _ _ _, hbk⟩
    · simp only [List.mem_cons, List.not_mem_nil, or_false, Prod.mk.injEq] at hk hk'
      exact absurd (hk.1.trans hk'.1.symm) hne
    · have : k = 0 := by omega
      subst this; exact ⟨_, upd_self _ _ _⟩
    · rintro e' w' ⟨v', ρ', rfl, hv', hsame, hpost, hnew, hfr⟩
      let ρ2 : Ren := upd ρ' 0 (ρ 0)
      have h2 : ∀ k, 1 ≤ k → ρ' k = ρ2 k := fun k hk => by show _ = upd ρ' 0 _ k; rw [upd_ne _ _ (by omega)]
      refine ⟨v', ρ2, rfl, hv'.congr hv h2, fun k hk => ?_, ⟨fun k b hk => ?_, fun k k' b b' sp1 sp2 hne hk hk' ho nv e1 e2 => ?_⟩, fun k b sp1 hm hk hsp => ?_, ⟨hfr.os, hfr.tape, hfr.output, hfr.size, fun b hb _ => hfr.block b hb (hno0 b)⟩⟩
      · have : k = 0 := by omega
        subst this; exact upd_self _ _ _
      · obtain ⟨hk1, hc1⟩ := hp k b hk
        obtain ⟨sp1, q1, q2⟩ := hpost.live k b hk
        exact ⟨sp1, (h2 k hk1).symm.trans q1, q2.congr hc1 h2⟩
      · rw [← h2 k (hp k b hk).1] at e1
        rw [← h2 k' (hp k' b' hk').1] at e2
        exact hpost.apart k k' b b' sp1 sp2 hne hk hk' ho nv e1 e2
      · rw [← h2 k hm] at hsp
        exact (hnew k b sp1 hm hk hsp).imp id (fun h => absurd h (hno0 _))
end Go.Proofs.Ytadifmimefmcnaa.Am
set_option linter.unusedVariables false
set_option linter.unusedSimpArgs false
namespace Go.Proofs.Ytadifmimefmcnaa.Am
open Go
theorem acw_core {P : Program} {w : World} {f : FuncId} {fn : Func} {c : Code} {m : Nat} {args : List Value} {pre : List (Nat × Blk)} (R : List Value → St → Prop)
    (hf : P.funcs[f]? = some fn) (hb : fn.body = some c) (hn : Nat.ble args.length fn.ntmps = true)
    (h : ∀ W pin, (∀ b, W b → ∃ ρ, OwnSet ρ pre b) → AW ⟨w, W, fn.ntmps, m, pin, []⟩ P c (mkSt m (argsT 0 args) pre) (EndF P fn R)) : ∀ (ρ : Ren) (args' : Array Value), args.length = args'.size → (∀ (j : Nat) (u : Value), args[j]? = some u → ∃ x, args'[j]? = some x ∧ VRel ρ u x) →
    HOkL ρ w pre → (∀ k, k < m → ∃ sp, ρ k = some sp) → (∀ k, m ≤ k → ρ k = none) →
    Calls P f args' w fun e w' => ∃ v' ρ2 S1 vs n a', e = .returned v' ∧ R vs S1 ∧ VRel ρ2 (packV vs) v' ∧ Rel ⟨w, OwnSet ρ pre, n, m, ρ, []⟩ ρ2 S1 a' w' := by
  intro ρ args' hl ha hp hlow hhigh
  have hle := Nat.le_of_ble_eq_true hn
  refine calls_of_wp hf hb ?_
  have hrel : Rel ⟨w, OwnSet ρ pre, fn.ntmps, m, ρ, []⟩ ρ (mkSt m (argsT 0 args) pre) { tmps := args' ++ Array.replicate (fn.ntmps - args'.size) undef, defers := [] } w := by
    have hdf : ∀ k b, base m k ≠ .live b := fun k b e => by unfold base at e; cases hh : Nat.blt k m <;> rw [hh] at e <;> cases e
    refine ⟨by simp; omega, rfl, fun t u hu => ?_, ⟨fun k hk => ?_, fun k b hk => ?_, ?_⟩, FrameOk.refl _ _, fun k b sp hk ho hsp => ?_, fun k hk => ?_⟩
    · obtain ⟨j, h1, h2⟩ := argsT_mem (ofT_some hu)
      obtain ⟨x, h3, h4⟩ := ha j u h2
      have : t = j := by omega
      subst this
      refine ⟨x, ?_, h4⟩
      obtain ⟨hj, _⟩ := Array.getElem?_eq_some_iff.1 h3
      rw [Array.getElem?_append_left hj]; exact h3
    · have hk2 : ofH (base m k) pre k = .fresh := hk
      refine hhigh k ?_
      rcases Nat.lt_or_ge k m with hlt | hge
      · exfalso
        by_cases hmem : k ∈ pre.map (·.1)
        · obtain ⟨b, hb'⟩ := ofH_key (d := base m k) hmem
          rw [hb'] at hk2; cases hk2
        · rw [ofH_nokey hmem] at hk2
          unfold base at hk2; rw [show Nat.blt k m = true from Nat.ble_eq_true_of_le hlt] at hk2; cases hk2
      · exact hge
    · exact hp.live k b (ofH_live (hdf k) hk)
    · intro k1 k2 b1 b2 sp1 sp2 hne h1 h2 ho nv e1 e2
      exact hp.apart k1 k2 b1 b2 sp1 sp2 hne (ofH_live (hdf k1) h1) (ofH_live (hdf k2) h2) ho nv e1 e2
    · exact .inl ⟨k, b, sp, ofH_live (hdf k) hk, ho, hsp, rfl⟩
    · obtain ⟨sp, hs⟩ := hlow k hk
      exact ⟨sp, hs, hs⟩
  refine wp_mono (h (OwnSet ρ pre) ρ (fun b hb => ⟨ρ, hb⟩) ρ _ w hrel) ?_
  rintro e a' w' ⟨ρ2, S1, ⟨he, vs, hvs, hR⟩, hr⟩
  obtain ⟨vs', r1, r2, r3⟩ := resVs_run (P := P) hr hvs
  have hres : (results fn a'.tmps).run P w' = .ok (if h : vs'.toArray.size = 1 then vs'.toArray[0] else .tuple vs'.toArray) w' := by
    rw [results_eq]
    rw [show fn.results = fn.results.toList.toArray from rfl]
    simp only [Sem.run_bind]
    rw [List.mapM_toArray]
    simp only [Sem.run_map]
    rw [r1]
    rfl
  have fin : ∃ v', (results fn a'.tmps).run P w' = .ok v' w' ∧ ∃ v'' ρ2 S1 vs n a', Ending.returned v' = .returned v'' ∧ R vs S1 ∧ VRel ρ2 (packV vs) v'' ∧ Rel ⟨w, OwnSet ρ pre, n, m, ρ, []⟩ ρ2 S1 a' w' :=
    ⟨_, hres, _, ρ2, S1, vs, fn.ntmps, a', rfl, hR, packV_rel r2 r3, hr⟩
  rcases he with rfl | rfl
  · obtain ⟨v', h1, h2⟩ := fin
    exact ⟨hr.defers, v', h1, h2⟩
  · obtain ⟨v', h1, h2⟩ := fin
    exact ⟨hr.defers, v', h1, h2⟩
def famO (TP : TypeId) (Y : List Row) : Nat → Cell := fun k => ownB TP Y (k - 200)
theorem famO_flat (TP : TypeId) (Y : List Row) : FlatG (famO TP Y) := fun k b h v hv => ownB_flat TP Y (k - 200) b h v hv
def LineR (TH TP : TypeId) (K : Nat) (Y : List Row) : List Value → St → Prop := fun vs S => vs = [.slice (some ⟨K, 0, none⟩) Y.length 0] ∧ S.H K = .live ⟨hds (· + 200) Y, TH, true, 1⟩ ∧ ∀ j, j < Y.length → S.H (j + 200) = .live ⟨(Y.getD j []).flatMap ptc, TP, true, 2⟩
theorem acL {P : Program} {f : FuncId} {fn : Func} {TH TP : TypeId} {Y : List Row} {args : List Value} {pre : List (Nat × Blk)} (K : Nat) (hK : K < 200) (hf : P.funcs[f]? = some fn)
    (h : ∀ w0 W pin, AW ⟨w0, W, fn.ntmps, 1, pin, []⟩ P (sb fn 1) (mkSt 1 (argsT 0 args) pre) (EndF P fn (LineR TH TP K Y)))
    (hb : fn.body = some (bodyOf fn) := by kernel_rfl) (hn : Nat.ble args.length fn.ntmps = true := by kernel_rfl) :
    AC P f 1 args pre (.slice (some ⟨1, 0, none⟩) Y.length 0) (famQ TH TP 1 Y) := by
  intro ρ w args' hl ha' hp hlow hhigh
  refine (acw_core (w := w) (m := 1) (LineR TH TP K Y) hf hb hn (fun W pin _ => h w W pin) ρ args' hl ha' hp hlow hhigh).mono ?_
  rintro e w' ⟨v', ρ2, S1, vs, n, a', rfl, ⟨rfl, h1, h2⟩, hv, hr⟩
  let ρ' : Ren := fun k => if k < 1 then ρ k else if k = 1 then ρ2 K else ρ2 (k - 2 + 200)
  have lo : ∀ k, k < 1 → ρ' k = ρ k := fun k hk => if_pos hk
  let τ : Nat → Nat := fun k => if k = 1 then K else k - 2 + 200
  have tK : τ 1 = K := if_pos rfl
  have tB : ∀ j, τ (1 + 1 + j) = j + 200 := fun j => by
    show (if 1 + 1 + j = 1 then _ else _) = _
    rw [if_neg (by omega)]; omega
  have hτ : ∀ k, 1 ≤ k → ρ' k = ρ2 (τ k) := fun k hk => by
    show (if k < 1 then _ else if k = 1 then _ else _) = ρ2 (if k = 1 then _ else _)
    rw [if_neg (by omega)]
    by_cases e : k = 1
    · rw [if_pos e, if_pos e]
    · rw [if_neg e, if_neg e]
  have old : ∀ k b, (k, b) ∈ famQ TH TP 1 Y → 1 ≤ k ∧ b.own = true ∧ ∃ b1, S1.H (τ k) = .live b1 ∧ RenB τ (fun q => 1 ≤ q) b b1 := fun k b hk => by
    rcases famQ_mem hk with ⟨rfl, rfl⟩ | ⟨j, hj, rfl, rfl⟩
    · refine ⟨Nat.le_refl _, rfl, ⟨hds (· + 200) Y, TH, true, 1⟩, by rw [tK]; exact h1, rfl, rfl, rfl, renL_hds fun j _ => ⟨by omega, tB j⟩⟩
    · exact ⟨by omega, rfl, _, by rw [tB]; exact h2 j hj, rfl, rfl, rfl, .flats (flats_pair _)⟩
  refine ⟨v', ρ', rfl, ?_, lo, ⟨fun k b hk => ?_, fun k k' b b' sp sp' hne hk hk' ho nv e1 e2 => ?_⟩, fun k b sp hm hk hsp => ?_, hr.frame⟩
  · have hren : RenV τ (fun q => 1 ≤ q) (.slice (some ⟨1, 0, none⟩) Y.length 0) (packV [.slice (some ⟨K, 0, none⟩) Y.length 0]) := by
      have := RenV.slice (σ := τ) (p := fun q => 1 ≤ q) 1 0 Y.length 0 0 (Nat.le_refl _)
      rwa [tK] at this
    exact hren.into hτ hv
  · obtain ⟨hge, _, b1, g1, g2⟩ := old k b hk
    obtain ⟨sp, q1, q2⟩ := hr.heap.live _ b1 g1
    exact ⟨sp, (hτ k hge).trans q1, g2.into hτ q2⟩
  · obtain ⟨hge, _, b1, g1, g2⟩ := old k b hk
    obtain ⟨hge', _, b1', g1', g2'⟩ := old k' b' hk'
    rw [hτ k hge] at e1
    rw [hτ k' hge'] at e2
    refine hr.heap.apart _ _ b1 b1' sp sp' (fun e => hne ?_) g1 g1' (by rw [g2.own]; exact ho) (fun v => nv (g2'.void.2 v)) e1 e2
    rcases famQ_mem hk with ⟨rfl, _⟩ | ⟨j, hj, rfl, _⟩ <;> rcases famQ_mem hk' with ⟨rfl, _⟩ | ⟨j', hj', rfl, _⟩
    · rfl
    · rw [tK, tB] at e; omega
    · rw [tK, tB] at e; omega
    · rw [tB, tB] at e; omega
  · obtain ⟨hge, ho, b1, g1, g2⟩ := old k b hk
    rw [hτ k hge] at hsp
    exact (hr.owned _ b1 sp g1 (by rw [g2.own]; exact ho) hsp).symm
theorem hds_snoc {nm : Nat → Nat} {Y : List Row} {r : Row} {q : Nat} : hds nm Y ++ [.slice (some ⟨q, 0, none⟩) r.length 0] = hds (fun j => if j = Y.length then q else nm j) (Y ++ [r]) := by
  unfold hds
  rw [List.length_append, List.length_cons, List.length_nil, List.range_succ, List.map_append]
  congr 1
  · apply List.map_congr_left
    intro j hj
    have hj := List.mem_range.1 hj
    unfold hdv
    dsimp only
    rw [if_neg (by omega), show (Y ++ [r]).getD j [] = Y.getD j [] by rw [List.getD_eq_getElem?_getD, List.getElem?_append_left hj]; rfl]
  · simp only [List.map_cons, List.map_nil]
    unfold hdv
    dsimp only
    rw [if_pos rfl, show (Y ++ [r]).getD Y.length [] = r by rw [List.getD_eq_getElem?_getD, List.getElem?_append_right (Nat.le_refl _), Nat.sub_self]; rfl]
theorem app_getD {Y : List Row} {r : Row} {j : Nat} : (Y ++ [r]).getD j [] = if j = Y.length then r else Y.getD j [] := by
  rw [List.getD_eq_getElem?_getD]
  rcases Nat.lt_trichotomy j Y.length with h | h | h
  · rw [if_neg (by omega), List.getElem?_append_left h]; rfl
  · rw [if_pos h, h, List.getElem?_append_right (Nat.le_refl _), Nat.sub_self]; rfl
  · rw [if_neg (by omega), List.getElem?_append_right (by omega), List.getElem?_eq_none_iff.2 (by simp; omega), List.getD_eq_getElem?_getD, List.getElem?_eq_none_iff.2 (by omega)]
section
variable {C : Ctx} {S : St} {T : List (Nat × Value)} {TH TP : TypeId}
/-- one more row; the slice gets the number K -/
theorem fam_snoc {K K0 q t n : Nat} {Y : List Row} {r : Row} {b0 : Blk} (hm : C.m = 1) (hK : 1 ≤ K ∧ K < 200) (hK0 : 1 ≤ K0 ∧ K0 < 200) (hq : 1 ≤ q ∧ q < 200 ∧ q ≠ K0) (ht : S.T t = some (.slice (some ⟨K0, 0, none⟩) n 0)) (hT : T.map (fun x => S.T x.1) = T.map (fun x => some x.2)) (cT : namesB 1 [] T = true)
    (h0 : S.H 0 = .live b0) (h0o : b0.own = false) (h0f : b0.cells.all flatB = true) (hKc : S.H K0 = .live ⟨hds (· + 200) Y ++ [.slice (some ⟨q, 0, none⟩) r.length 0], TH, true, 1⟩) (hqc : S.H q = .live ⟨r.flatMap ptc, TP, true, 2⟩) (hG : ∀ j, S.H (j + 200) = famO TP Y (j + 200)) :
    Weak C S (mkF C.m ((t, .slice (some ⟨K, 0, none⟩) n 0) :: T) [(0, b0), (K, ⟨hds (· + 200) (Y ++ [r]), TH, true, 1⟩)] (famO TP (Y ++ [r]))) := by
  have s0 : (if (0 : Nat) = K then K0 else if 0 = Y.length + 200 then q else 0) = 0 := by rw [if_neg (by omega), if_neg (by omega)]
  have sF : ∀ j, (if j + 200 = K then K0 else if j + 200 = Y.length + 200 then q else j + 200) = if j = Y.length then q else j + 200 := fun j => by
    rw [if_neg (by omega)]
    by_cases e : j = Y.length
    · rw [if_pos e, if_pos (by omega)]
    · rw [if_neg e, if_neg (by omega)]
  have hO : ∀ j b, famO TP (Y ++ [r]) (j + 200) = .live b → j < Y.length + 1 ∧ b = ⟨((Y ++ [r]).getD j []).flatMap ptc, TP, true, 2⟩ := fun j b h => by
    unfold famO ownB at h
    rw [Nat.add_sub_cancel] at h
    split at h
    · rename_i hj; simp at hj; simp only [Cell.live.injEq] at h; exact ⟨hj, h.symm⟩
    · cases h
  have tell : ∀ x, (x = 0 ∨ x = K ∨ ∃ j, j < Y.length + 1 ∧ x = j + 200) →
      (x = 0 ∧ (if x = K then K0 else if x = Y.length + 200 then q else x) = 0) ∨ (x = K ∧ (if x = K then K0 else if x = Y.length + 200 then q else x) = K0) ∨
      (x = Y.length + 200 ∧ (if x = K then K0 else if x = Y.length + 200 then q else x) = q) ∨ (200 ≤ x ∧ x ≠ Y.length + 200 ∧ (if x = K then K0 else if x = Y.length + 200 then q else x) = x) := fun x hx => by
    rcases hx with h | h | ⟨j, hj, h⟩
    · subst h; exact .inl ⟨rfl, s0⟩
    · exact .inr (.inl ⟨h, if_pos h⟩)
    · by_cases e : j = Y.length
      · exact .inr (.inr (.inl ⟨by omega, by rw [if_neg (by omega), if_pos (by omega)]⟩))
      · exact .inr (.inr (.inr ⟨by omega, by omega, by rw [if_neg (by omega), if_neg (by omega)]⟩))
  refine weakG (T0 := (t, .slice (some ⟨K0, 0, none⟩) n 0) :: T) (fun k => if k = K then K0 else if k = Y.length + 200 then q else k) (fun k => k = 0 ∨ k = K ∨ ∃ j, j < Y.length + 1 ∧ k = j + 200) (by omega) ⟨ht, allT_of hT⟩ ⟨rfl, ?_, .fix fun t v hv => .fix (fun k hk => ?_) (namesB_only cT hv)⟩ (fun k b hk => ?_) (fun k hk hp => ?_) (fun k b hk hb => ?_) (fun k hk hf hp => ?_) (fun k k' b b' hne hp hp' h1 h2 ho nv => ?_) (fun k hk => ?_)
  · have := RenV.slice (σ := fun k => if k = K then K0 else if k = Y.length + 200 then q else k) (p := fun k => k = 0 ∨ k = K ∨ ∃ j, j < Y.length + 1 ∧ k = j + 200) K 0 n 0 0 (.inr (.inl rfl))
    rwa [show (if K = K then K0 else if K = Y.length + 200 then q else K) = K0 from if_pos rfl] at this
  · rcases hk with h | h
    · have : k = 0 := by omega
      subst this; exact ⟨.inl rfl, s0⟩
    · exact absurd h List.not_mem_nil
  · simp only [List.mem_cons, List.not_mem_nil, or_false, Prod.mk.injEq] at hk
    rcases hk with ⟨rfl, rfl⟩ | ⟨rfl, rfl⟩
    · exact ⟨.inl rfl, _, by show S.H (if 0 = K then K0 else if 0 = Y.length + 200 then q else 0) = _; rw [s0]; exact h0, rfl, id, rfl, .flats h0f⟩
    · refine ⟨.inr (.inl rfl), ⟨hds (· + 200) Y ++ [.slice (some ⟨q, 0, none⟩) r.length 0], TH, true, 1⟩, by show S.H (if k = k then K0 else _) = _; rw [if_pos rfl]; exact hKc, rfl, id, rfl, ?_⟩
      show RenL _ _ (hds (· + 200) (Y ++ [r])) _
      rw [hds_snoc]
      exact renL_hds fun j hj => ⟨.inr (.inr ⟨j, by simpa using hj, rfl⟩), sF j⟩
  · rcases hp with h | h | ⟨j, _, h⟩
    · exact .inl (by omega)
    · exact .inr (by simp [h])
    · omega
  · obtain ⟨j, rfl⟩ : ∃ j, k = j + 200 := ⟨k - 200, by omega⟩
    obtain ⟨hj, rfl⟩ := hO j b hb
    refine ⟨.inr (.inr ⟨j, hj, rfl⟩), ?_⟩
    show ∃ b0, S.H (if j + 200 = K then K0 else if j + 200 = Y.length + 200 then q else j + 200) = _ ∧ _
    rw [sF]
    by_cases e : j = Y.length
    · rw [if_pos e, app_getD, if_pos e]
      exact ⟨_, hqc, renW_flat⟩
    · rw [if_neg e, app_getD, if_neg e]
      refine ⟨_, (hG j).trans ?_, renW_flat⟩
      unfold famO ownB
      rw [Nat.add_sub_cancel, if_pos (by omega)]
  · rcases hp with h | h | ⟨j, hj, rfl⟩
    · omega
    · omega
    · unfold famO ownB at hf
      rw [Nat.add_sub_cancel, if_pos (by simpa using hj)] at hf; cases hf
  · have e0 : b.own = true → k = 0 → False := fun ho e => by
      subst e
      rw [mkF_lo (by omega)] at h1
      have := ofH_live (base_no _ _) h1
      simp only [List.mem_cons, List.not_mem_nil, or_false, Prod.mk.injEq] at this
      rcases this with ⟨_, rfl⟩ | ⟨h, _⟩
      · rw [h0o] at ho; cases ho
      · omega
    have e0 := e0 ho
    have f0 : k' = 0 → S.H 0 = .live b' := fun e => by
      subst e
      rw [mkF_lo (by omega)] at h2
      have := ofH_live (base_no _ _) h2
      simp only [List.mem_cons, List.not_mem_nil, or_false, Prod.mk.injEq] at this
      rcases this with ⟨_, rfl⟩ | ⟨h, _⟩
      · exact h0
      · omega
    have t1 := tell k hp
    have t2 := tell k' hp'
    clear hp hp' tell h1 h2
    show (if k = K then K0 else if k = Y.length + 200 then q else k) ≠ (if k' = K then K0 else if k' = Y.length + 200 then q else k')
    rcases t1 with ⟨a1, a3⟩ | ⟨a1, a3⟩ | ⟨a1, a3⟩ | ⟨a1, a2, a3⟩ <;> rcases t2 with ⟨c1, c3⟩ | ⟨c1, c3⟩ | ⟨c1, c3⟩ | ⟨c1, c2, c3⟩ <;> rw [a3, c3] <;> omega
  · have : k = 0 := by omega
    subst this; exact ⟨.inl rfl, s0⟩
theorem famO_at {Y : List Row} {j : Nat} (h : j < Y.length) : famO TP Y (j + 200) = .live ⟨(Y.getD j []).flatMap ptc, TP, true, 2⟩ := by
  unfold famO ownB; rw [Nat.add_sub_cancel, if_pos h]
theorem snoc_rows {q : Nat} {Y : List Row} {r : Row} (hqc : S.H q = .live ⟨r.flatMap ptc, TP, true, 2⟩) (hG : ∀ j, S.H (j + 200) = famO TP Y (j + 200)) : ∀ j, j < (Y ++ [r]).length → ∃ e o, S.H ((fun j => if j = Y.length then q else j + 200) j) = .live ⟨((Y ++ [r]).getD j []).flatMap ptc, e, o, 2⟩ := fun j hj => by
  refine ⟨TP, true, ?_⟩
  rw [app_getD]
  dsimp only
  by_cases e : j = Y.length
  · rw [if_pos e, if_pos e]; exact hqc
  · rw [if_neg e, if_neg e, hG, famO_at (by simp at hj; omega)]
end
end Go.Proofs.Ytadifmimefmcnaa.Am
set_option linter.unusedVariables false
set_option linter.unusedSimpArgs false
namespace Go.Proofs.Ytadifmimefmcnaa.Am
open Go
def famW (TH TP : TypeId) (kh : Nat) (nm : Nat → Nat) (X : List Row) : List (Nat × Blk) := (kh, ⟨hds nm X, TH, true, 1⟩) :: (List.range X.length).map fun j => (nm j, ⟨(X.getD j []).flatMap ptc, TP, true, 2⟩)
def cloP (TH TP : TypeId) (X : List Row) : List (Nat × Blk) := (0, ⟨hds (· + 1) X, TH, false, 1⟩) :: (List.range X.length).map fun j => (j + 1, ⟨[], TP, false, 2⟩)
theorem cloP_mem {TH TP : TypeId} {X : List Row} {k : Nat} {b : Blk} (h : (k, b) ∈ cloP TH TP X) : (k = 0 ∧ b = ⟨hds (· + 1) X, TH, false, 1⟩) ∨ ∃ j, j < X.length ∧ k = j + 1 ∧ b = ⟨[], TP, false, 2⟩ := by
  unfold cloP at h
  rcases List.mem_cons.1 h with h | h
  · simp only [Prod.mk.injEq] at h; exact .inl h
  · obtain ⟨j, hj, e⟩ := List.mem_map.1 h
    simp only [Prod.mk.injEq] at e
    exact .inr ⟨j, List.mem_range.1 hj, e.1.symm, e.2.symm⟩
theorem renH_fam {σ : Nat → Nat} {p : Nat → Prop} {TP : TypeId} {X : List Row} {f g : Nat → Nat} (h : ∀ j, g j = σ (f j)) : ∀ (l : List Nat), RenH σ p (l.map fun j => (f j, (⟨(X.getD j []).flatMap ptc, TP, true, 2⟩ : Blk))) (l.map fun j => (g j, (⟨(X.getD j []).flatMap ptc, TP, true, 2⟩ : Blk)))
  | [] => trivial
  | j :: l => ⟨h j, ⟨rfl, rfl, rfl, .flats (flats_pair _)⟩, renH_fam h l⟩
section
variable {C : Ctx} {P : Program} {ops : Array Oper} {i : Nat} {S : St}
def sigL (k0 kh : Nat) : Nat → Nat
  | 0 => k0
  | 1 => kh
  | j + 2 => nA j
/-- a call that makes a slice of slices out of a row that is only read -/
theorem does_famL (k0 kh : Nat) {X : List Row} {TH TP : TypeId} {g : Nat} {args0 : List Value} {b0 b : Blk} (ars : Array Operand) (ats : Array TypeId) (vs : List Value) (ac : AC P g 1 args0 [(0, b0)] (.slice (some ⟨1, 0, none⟩) X.length 0) (famQ TH TP 1 X))
    (hb0 : b0.own = false) (hfl : b0.cells.all flatB = true) (hH : S.H k0 = .live b) (he : b.cells = b0.cells ∧ b.step = b0.step) (ha : RenL (sigL k0 kh) (· < 1) args0 vs) (hkh : kh < 200) (hfr : S.H kh = .fresh := by kernel_rfl) (hfr2 : ∀ j, S.H (nA j) = .fresh := by intro j; kernel_rfl)
    (hs : shapeAt ops S i = some (.call ⟨.value (.func g), ars, ats⟩, true) := by kernel_rfl) (hf : ev S (.func g) = some (.func (.func g) #[] #[]) := by kernel_rfl) (hargs : evs S ars.toList = some vs := by kernel_rfl) (hg : callB P g = true := by kernel_rfl) :
    Does C P ops i S ⟨[k0] ++ (List.range' 1 (1 + X.length)).map (sigL k0 kh), .slice (some ⟨kh, 0, none⟩) X.length 0, writesOf [] (famW TH TP kh nA X)⟩ := by
  have s2 : ∀ j, sigL k0 kh (1 + 1 + j) = nA j := fun j => by rw [show 1 + 1 + j = j + 2 by omega]; rfl
  refine does_lendN (firsts := #[]) (caps := #[]) (pre0 := [(0, b0)]) (sigL k0 kh) [k0] hs hf hargs hg ac (by simpa using ha) (fun k b' hk => ?_) (fun j hj => ⟨b0, by rw [show j = 0 by omega]; exact List.mem_cons_self⟩) (fun j b' hj => ?_) (fun k b' hk => ?_) (fun k h1 h2 => ?_) (fun p q hp hp2 hq hq2 e => ?_) (fun j h1 h2 => ?_) ?_ ?_
  · simp only [List.mem_cons, List.not_mem_nil, or_false, Prod.mk.injEq] at hk
    rw [hk.2]; exact ⟨by omega, hb0⟩
  · simp only [List.mem_cons, List.not_mem_nil, or_false, Prod.mk.injEq] at hj
    obtain ⟨rfl, rfl⟩ := hj
    exact ⟨List.mem_cons_self, b, hH, he.2, .inr (by rw [he.1]; exact .flats hfl)⟩
  · rcases famQ_mem hk with ⟨rfl, _⟩ | ⟨j, hj, rfl, _⟩ <;> omega
  · unfold famQ
    rw [List.map_cons, List.map_map]
    by_cases e : k = 1
    · subst e; exact List.mem_cons_self
    · exact List.mem_cons_of_mem _ (List.mem_map.2 ⟨k - 2, List.mem_range.2 (by omega), by show 1 + 1 + (k - 2) = k; omega⟩)
  · match p, q, hp, hq with
    | 1, 1, _, _ => rfl
    | 1, q + 2, _, _ => have e : kh = nA q := e; have := nA_ge q; omega
    | p + 2, 1, _, _ => have e : nA p = kh := e; have := nA_ge p; omega
    | p + 2, q + 2, _, _ => have e : nA p = nA q := e; rw [nA_inj e]
  · match j, h1 with
    | 1, _ => exact hfr
    | j + 2, _ => exact hfr2 j
  · refine ⟨rfl, ⟨rfl, rfl, rfl, renL_hds fun j hj => ⟨by omega, s2 j⟩⟩, renH_fam (fun j => (s2 j).symm) _⟩
  · have := RenV.slice (σ := sigL k0 kh) (p := (· < 1 + (1 + X.length))) 1 0 X.length 0 0 (by omega)
    exact this
def sigK (n kh kh2 : Nat) (nm : Nat → Nat) (k : Nat) : Nat := if k = 0 then kh else if k ≤ n then nm (k - 1) else if k = n + 1 then kh2 else nB (k - (n + 2))
/-- a call that makes a slice of slices out of another one -/
theorem does_famK (kh kh2 : Nat) (nm : Nat → Nat) {X Y : List Row} {TH TP : TypeId} {g n : Nat} {args0 : List Value} (ars : Array Operand) (ats : Array TypeId) (vs : List Value) (ac : AC P g (1 + n) args0 (famP TH TP X) (.tuple #[.slice (some ⟨1 + n, 0, none⟩) Y.length 0, .int .i64 0]) (famQ TH TP (1 + n) Y))
    (hn : X.length = n) (hYn : Y.length = n) (hH : ∃ e o, S.H kh = .live ⟨hds nm X, e, o, 1⟩) (hR : ∀ j, j < X.length → ∃ e o, S.H (nm j) = .live ⟨(X.getD j []).flatMap ptc, e, o, 2⟩) (ha : RenL (sigK n kh kh2 nm) (· < 1 + n) args0 vs) (hkh : kh2 < 200)
    (hfr : S.H kh2 = .fresh := by kernel_rfl) (hfr2 : ∀ j, S.H (nB j) = .fresh := by intro j; kernel_rfl)
    (hs : shapeAt ops S i = some (.call ⟨.value (.func g), ars, ats⟩, true) := by kernel_rfl) (hf : ev S (.func g) = some (.func (.func g) #[] #[]) := by kernel_rfl) (hargs : evs S ars.toList = some vs := by kernel_rfl) (hg : callB P g = true := by kernel_rfl) :
    Does C P ops i S ⟨(kh :: (List.range n).map nm) ++ (List.range' (1 + n) (1 + n)).map (sigK n kh kh2 nm), .tuple #[.slice (some ⟨kh2, 0, none⟩) n 0, .int .i64 0], writesOf [] (famW TH TP kh2 nB Y)⟩ := by
  have s0 : sigK n kh kh2 nm 0 = kh := if_pos rfl
  have s1 : ∀ j, j < n → sigK n kh kh2 nm (j + 1) = nm j := fun j hj => by unfold sigK; rw [if_neg (by omega), if_pos (by omega), Nat.add_sub_cancel]
  have s2 : sigK n kh kh2 nm (1 + n) = kh2 := by unfold sigK; rw [if_neg (by omega), if_neg (by omega), if_pos (by omega)]
  have s3 : ∀ j, sigK n kh kh2 nm (1 + n + 1 + j) = nB j := fun j => by unfold sigK; rw [if_neg (by omega), if_neg (by omega), if_neg (by omega), show 1 + n + 1 + j - (n + 2) = j by omega]
  have sc : ∀ k, 1 + n ≤ k → k = 1 + n ∨ ∃ j, k = 1 + n + 1 + j := fun k hk => by
    rcases Nat.eq_or_lt_of_le hk with e | e
    · exact .inl e.symm
    · exact .inr ⟨k - (1 + n + 1), by omega⟩
  refine does_lendN (firsts := #[]) (caps := #[]) (r := 1 + n) (sigK n kh kh2 nm) _ hs hf hargs hg ac (by simpa using ha) (fun k b hk => ⟨?_, famP_ro hk⟩) (fun j hj => ?_) (fun j b0 hj => ?_) (fun k b hk => ?_) (fun k h1 h2 => ?_) (fun p q hp hp2 hq hq2 e => ?_) (fun j h1 h2 => ?_) ?_ ?_
  · rcases famP_mem hk with ⟨rfl, _⟩ | ⟨j, h1, rfl, _⟩ <;> omega
  · cases j with
    | zero => exact ⟨_, famP_0⟩
    | succ j => exact ⟨_, famP_s (by omega)⟩
  · rcases famP_mem hj with ⟨rfl, rfl⟩ | ⟨q, h1, rfl, rfl⟩
    · obtain ⟨e, o, h⟩ := hH
      refine ⟨by rw [s0]; exact List.mem_cons_self, ⟨hds nm X, e, o, 1⟩, by rw [s0]; exact h, rfl, .inr (renL_hds fun j hj => ⟨by omega, s1 j (by omega)⟩)⟩
    · obtain ⟨e, o, h⟩ := hR q h1
      refine ⟨by rw [s1 q (by omega)]; exact List.mem_cons_of_mem _ (List.mem_map.2 ⟨q, List.mem_range.2 (by omega), rfl⟩), ⟨(X.getD q []).flatMap ptc, e, o, 2⟩, by rw [s1 q (by omega)]; exact h, rfl, .inr (.flats (flats_pair _))⟩
  · rcases famQ_mem hk with ⟨rfl, _⟩ | ⟨j, hj, rfl, _⟩ <;> omega
  · unfold famQ
    rw [List.map_cons, List.map_map]
    rcases sc k h1 with rfl | ⟨j, rfl⟩
    · exact List.mem_cons_self
    · exact List.mem_cons_of_mem _ (List.mem_map.2 ⟨j, List.mem_range.2 (by omega), rfl⟩)
  · rcases sc p hp with rfl | ⟨a, rfl⟩ <;> rcases sc q hq with rfl | ⟨b, rfl⟩
    · rfl
    · rw [s2, s3] at e; have := nB_ge b; omega
    · rw [s2, s3] at e; have := nB_ge a; omega
    · rw [s3, s3] at e; rw [nB_inj e]
  · rcases sc j h1 with rfl | ⟨a, rfl⟩
    · rw [s2]; exact hfr
    · rw [s3]; exact hfr2 a
  · refine ⟨s2.symm, ⟨rfl, rfl, rfl, renL_hds fun j hj => ⟨by omega, s3 j⟩⟩, renH_fam (fun j => (s3 j).symm) _⟩
  · refine .tuple _ _ rfl fun i hi => ?_
    match i, hi with
    | 0, _ =>
      have := RenV.slice (σ := sigK n kh kh2 nm) (p := (· < 1 + n + (1 + n))) (1 + n) 0 Y.length 0 0 (by omega)
      rw [s2, hYn] at this
      rw [hYn]; exact this
    | 1, _ => exact .flat _ (.int _ _)
def sigC (n K q k : Nat) : Nat := if k = 0 then K else if k ≤ n then k - 1 + 200 else q
/-- the copy of a slice of slices -/
theorem does_cloneH (K q : Nat) {X : List Row} {TH TP e : TypeId} {o : Bool} {g : Nat} (ars : Array Operand) (ats : Array TypeId) (vs : List Value) (ac : AC P g (1 + X.length) [.slice (some ⟨0, 0, none⟩) X.length 0] (cloP TH TP X) (.slice (some ⟨1 + X.length, 0, none⟩) X.length 0) [(1 + X.length, ⟨hds (· + 1) X, TH, true, 1⟩)])
    (hH : S.H K = .live ⟨hds (· + 200) X, e, o, 1⟩) (hR : ∀ j, j < X.length → S.H (j + 200) = .live ⟨(X.getD j []).flatMap ptc, TP, true, 2⟩) (hvs : vs = [.slice (some ⟨K, 0, none⟩) X.length 0]) (hfr : S.H q = .fresh := by kernel_rfl)
    (hs : shapeAt ops S i = some (.call ⟨.value (.func g), ars, ats⟩, true) := by kernel_rfl) (hf : ev S (.func g) = some (.func (.func g) #[] #[]) := by kernel_rfl) (hargs : evs S ars.toList = some vs := by kernel_rfl) (hg : callB P g = true := by kernel_rfl) :
    Does C P ops i S ⟨(K :: (List.range X.length).map (· + 200)) ++ [q], .slice (some ⟨q, 0, none⟩) X.length 0, writesOf [] [(q, ⟨hds (· + 200) X, TH, true, 1⟩)]⟩ := by
  have s0 : sigC X.length K q 0 = K := if_pos rfl
  have s1 : ∀ j, j < X.length → sigC X.length K q (j + 1) = j + 200 := fun j hj => by unfold sigC; rw [if_neg (by omega), if_pos (by omega), Nat.add_sub_cancel]
  have s2 : sigC X.length K q (1 + X.length) = q := by unfold sigC; rw [if_neg (by omega), if_neg (by omega)]
  subst hvs
  have er : (List.range' (1 + X.length) 1).map (sigC X.length K q) = [q] := by simp [s2]
  rw [← er]
  refine does_lendN (firsts := #[]) (caps := #[]) (r := 1) (sigC X.length K q) _ hs hf hargs hg ac ?_ (fun k b hk => ?_) (fun j hj => ?_) (fun j b0 hj => ?_) (fun k b hk => ?_) (fun k h1 h2 => ?_) (fun p q hp hp2 hq hq2 e => ?_) (fun j h1 h2 => ?_) ?_ ?_
  · have := RenV.slice (σ := sigC X.length K q) (p := (· < 1 + X.length)) 0 0 X.length 0 0 (by omega)
    rw [s0] at this
    simpa using RenL.cons this .nil
  · rcases cloP_mem hk with ⟨rfl, rfl⟩ | ⟨j, h1, rfl, rfl⟩
    · exact ⟨by omega, rfl⟩
    · exact ⟨by omega, rfl⟩
  · cases j with
    | zero => exact ⟨_, List.mem_cons_self⟩
    | succ j => exact ⟨_, List.mem_cons_of_mem _ (List.mem_map.2 ⟨j, List.mem_range.2 (by omega), rfl⟩)⟩
  · rcases cloP_mem hj with ⟨rfl, rfl⟩ | ⟨a, h1, rfl, rfl⟩
    · exact ⟨by rw [s0]; exact List.mem_cons_self, ⟨hds (· + 200) X, e, o, 1⟩, by rw [s0]; exact hH, rfl, .inr (renL_hds fun j hj => ⟨by omega, s1 j hj⟩)⟩
    · exact ⟨by rw [s1 a h1]; exact List.mem_cons_of_mem _ (List.mem_map.2 ⟨a, List.mem_range.2 h1, rfl⟩), ⟨(X.getD a []).flatMap ptc, TP, true, 2⟩, by rw [s1 a h1]; exact hR a h1, rfl, .inl rfl⟩
  · simp only [List.mem_cons, List.not_mem_nil, or_false, Prod.mk.injEq] at hk
    omega
  · rw [show k = 1 + X.length by omega]; exact List.mem_cons_self
  · omega
  · rw [show j = 1 + X.length by omega, s2]; exact hfr
  · exact ⟨s2.symm, ⟨rfl, rfl, rfl, renL_hds fun j hj => ⟨by omega, s1 j hj⟩⟩, trivial⟩
  · have := RenV.slice (σ := sigC X.length K q) (p := (· < 1 + X.length + 1)) (1 + X.length) 0 X.length 0 0 (by omega)
    rwa [s2] at this
end
end Go.Proofs.Ytadifmimefmcnaa.Am
set_option linter.unusedVariables false
set_option linter.unusedSimpArgs false
namespace Go.Proofs.Ytadifmimefmcnaa.Am
open Go
def roB (TP : TypeId) (Y : List Row) : Nat → Cell := fun j => .live ⟨(Y.getD j []).flatMap ptc, TP, false, 2⟩
theorem roB_flat (TP : TypeId) (Y : List Row) : FlatB (roB TP Y) := fun j b h v hv => by
  unfold roB at h
  simp only [Cell.live.injEq] at h
  subst h
  exact only_flat (List.all_eq_true.1 (flats_pair _) v hv)
def noB : Nat → Cell := fun _ => .fresh
theorem fam2_roB (TP : TypeId) (X Y : List Row) (j : Nat) : fam2 TP X (roB TP Y) (nB j) = .live ⟨(Y.getD j []).flatMap ptc, TP, false, 2⟩ := fam2_B ..
theorem out_nil {X : List Row} {j : Nat} (h : X.length ≤ j) : (X.getD j []).flatMap ptc = [] := by
  rw [List.getD_eq_getElem?_getD, List.getElem?_eq_none_iff.2 h]; rfl
theorem wr_none {l : List (Nat × Cell)} {H : Nat → Cell} {k : Nat} (h : k ∉ l.map (·.1)) : wr l H k = H k := by unfold wr; rw [findW_none h]; rfl
theorem wr_live {post : List (Nat × Blk)} {H : Nat → Cell} {k : Nat} {b : Blk} (hm : (k, b) ∈ post) (hu : ∀ b', (k, b') ∈ post → b' = b) : wr (writesOf [] post) H k = .live b := by
  obtain ⟨c, h1, h2⟩ := findW_some (l := writesOf [] post) (n := k) (writesOf_keys.2 (.inl (List.mem_map.2 ⟨_, hm, rfl⟩)))
  unfold wr
  rw [h1]
  cases c with
  | live b' => rw [hu b' (writesOf_live h1)]; rfl
  | fresh => exact absurd rfl (writesOf_some h1)
  | gone =>
    simp only [writesOf, List.filter_nil, List.map_nil, List.append_nil, List.mem_map, Prod.mk.injEq] at h2
    obtain ⟨x, _, _, h⟩ := h2; cases h
theorem wr_old {post : List (Nat × Blk)} {H : Nat → Cell} {k : Nat} (h : k ∉ post.map (·.1)) : wr (writesOf [] post) H k = H k :=
  wr_none fun e => by
    rcases writesOf_keys.1 e with q | ⟨b, q, _⟩
    · exact h q
    · cases q
theorem famW_mem {TH TP : TypeId} {kh : Nat} {nm : Nat → Nat} {X : List Row} {k : Nat} {b : Blk} (h : (k, b) ∈ famW TH TP kh nm X) : (k = kh ∧ b = ⟨hds nm X, TH, true, 1⟩) ∨ ∃ j, j < X.length ∧ k = nm j ∧ b = ⟨(X.getD j []).flatMap ptc, TP, true, 2⟩ := by
  unfold famW at h
  rcases List.mem_cons.1 h with h | h
  · simp only [Prod.mk.injEq] at h; exact .inl h
  · obtain ⟨j, hj, e⟩ := List.mem_map.1 h
    simp only [Prod.mk.injEq] at e
    exact .inr ⟨j, List.mem_range.1 hj, e.1.symm, e.2.symm⟩
theorem famW_hd {TH TP : TypeId} {kh : Nat} {nm : Nat → Nat} {X : List Row} {H : Nat → Cell} (hk : kh < 200) (hn : ∀ j, 200 ≤ nm j) : wr (writesOf [] (famW TH TP kh nm X)) H kh = .live ⟨hds nm X, TH, true, 1⟩ :=
  wr_live (List.mem_cons_self) fun b' hb => by
    rcases famW_mem hb with ⟨_, h⟩ | ⟨j, _, h, _⟩
    · exact h
    · have := hn j; omega
theorem famW_row {TH TP : TypeId} {kh : Nat} {nm : Nat → Nat} {X : List Row} {H : Nat → Cell} (hk : kh < 200) (hn : ∀ j, 200 ≤ nm j) (hi : ∀ i j, nm i = nm j → i = j) {j : Nat} (hj : j < X.length) : wr (writesOf [] (famW TH TP kh nm X)) H (nm j) = .live ⟨(X.getD j []).flatMap ptc, TP, true, 2⟩ :=
  wr_live (List.mem_cons_of_mem _ (List.mem_map.2 ⟨j, List.mem_range.2 hj, rfl⟩)) fun b' hb => by
    rcases famW_mem hb with ⟨h, _⟩ | ⟨j', _, h, e⟩
    · have := hn j; omega
    · rw [e, hi _ _ h]
theorem famW_no {TH TP : TypeId} {kh : Nat} {nm : Nat → Nat} {X : List Row} {H : Nat → Cell} {k : Nat} (h : k ≠ kh) (h2 : ∀ j, k ≠ nm j) : wr (writesOf [] (famW TH TP kh nm X)) H k = H k :=
  wr_old fun e => by
    obtain ⟨x, hx, rfl⟩ := List.mem_map.1 e
    rcases famW_mem (k := x.1) (b := x.2) hx with ⟨q, _⟩ | ⟨j, _, q, _⟩
    · exact h q
    · exact h2 j q
section
variable {C : Ctx} {S : St} {T : List (Nat × Value)} {TH TP : TypeId}
open Classical in
/-- the rows of a slice of slices, and the slice itself, are only read from here on -/
theorem freeze {kh : Nat} {nm : Nat → Nat} {X : List Row} {e : TypeId} {o : Bool} (hm : C.m = 1) (hk : 1 ≤ kh ∧ kh < 200) (hT : T.map (fun x => S.T x.1) = T.map (fun x => some x.2)) (cT : namesB 1 [kh] T = true)
    (hH : S.H kh = .live ⟨hds nm X, TH, o, 1⟩) (hR : ∀ j, j < X.length → ∃ o, S.H (nm j) = .live ⟨(X.getD j []).flatMap ptc, TP, o, 2⟩) : Weak C S (mkF C.m T [(kh, ⟨hds nA X, TH, false, 1⟩)] (fam2 TP X noB)) := by
  have sA : ∀ j, (if 200 ≤ nA j then nm ((nA j - 200) / 2) else nA j) = nm j := fun j => by
    rw [if_pos (nA_ge j), show (nA j - 200) / 2 = j by unfold nA; omega]
  have sl : ∀ k, k < 200 → (if 200 ≤ k then nm ((k - 200) / 2) else k) = k := fun k h => if_neg (by omega)
  have par2 : ∀ k, 200 ≤ k → (∃ j, k = nA j) ∨ ∃ j, k = nB j := fun k h => par h
  refine weak_gen (fun k => if 200 ≤ k then nm ((k - 200) / 2) else k) (fun k => k = 0 ∨ k = kh ∨ ∃ j, j < X.length ∧ k = nA j) (fun k => if (∃ j, X.length ≤ j ∧ k = nA j) then some 2 else none) (fun t v hv => ?_) (fun k hf => .inl ?_) (fun k b hb => ?_) (fun k k' b b' hne h1 h2 ho nv => ?_) (fun k hk' => ?_)
  · have hmm := ofT_some hv
    refine ⟨v, (allT_of hT).mem hmm, .fix (fun q hq => ?_) (namesB_only cT hmm)⟩
    rcases hq with h | h
    · have : q = 0 := by omega
      subst this; exact ⟨.inl rfl, sl 0 (by omega)⟩
    · simp only [List.mem_cons, List.not_mem_nil, or_false] at h
      subst h; exact ⟨.inr (.inl rfl), sl q hk.2⟩
  · rcases Nat.lt_or_ge k 200 with hlt | hge
    · rw [mkF_lo hlt] at hf
      refine ⟨fun hp => ?_, if_neg (by rintro ⟨j, _, h⟩; have := nA_ge j; omega)⟩
      rcases hp with h | h | ⟨j, _, h⟩
      · subst h
        have hb : ofH (base C.m 0) [(kh, (⟨hds nA X, TH, false, 1⟩ : Blk))] 0 = base C.m 0 := ofH_nokey (by simp; omega)
        rw [hb, hm] at hf; cases hf
      · subst h
        obtain ⟨b, hb⟩ := ofH_key (L := [(k, (⟨hds nA X, TH, false, 1⟩ : Blk))]) (d := base C.m k) (k := k) (by simp)
        rw [hb] at hf; cases hf
      · have := nA_ge j; omega
    · rw [mkF_hi hge] at hf
      rcases par2 k hge with ⟨j, rfl⟩ | ⟨j, rfl⟩
      · rw [fam2_A] at hf; cases hf
      · refine ⟨fun hp => ?_, if_neg (by rintro ⟨i, _, h⟩; exact nA_nB i j h.symm)⟩
        rcases hp with h | h | ⟨i, _, h⟩
        · have := nB_ge j; omega
        · have := nB_ge j; omega
        · exact nA_nB i j h.symm
  · rcases Nat.lt_or_ge k 200 with hlt | hge
    · rw [mkF_lo hlt] at hb
      have := ofH_live (base_no _ _) hb
      simp only [List.mem_cons, List.not_mem_nil, or_false, Prod.mk.injEq] at this
      obtain ⟨rfl, rfl⟩ := this
      refine .inl ⟨.inr (.inl rfl), ⟨hds nm X, TH, o, 1⟩, by show S.H (if 200 ≤ k then _ else _) = _; rw [sl k hk.2]; exact hH, rfl, (fun h => by cases h), rfl, renL_hds fun j hj => ⟨.inr (.inr ⟨j, hj, rfl⟩), sA j⟩⟩
    · rw [mkF_hi hge] at hb
      rcases par2 k hge with ⟨j, rfl⟩ | ⟨j, rfl⟩
      · rw [fam2_A] at hb
        simp only [Cell.live.injEq] at hb
        subst hb
        by_cases hj : j < X.length
        · obtain ⟨o2, h2⟩ := hR j hj
          exact .inl ⟨.inr (.inr ⟨j, hj, rfl⟩), ⟨(X.getD j []).flatMap ptc, TP, o2, 2⟩, by show S.H (if 200 ≤ nA j then _ else _) = _; rw [sA]; exact h2, rfl, (fun h => by cases h), rfl, .flats (flats_pair _)⟩
        · refine .inr ⟨fun hp => ?_, if_pos ⟨j, by omega, rfl⟩, rfl, out_nil (by omega)⟩
          rcases hp with h | h | ⟨i, hi, h⟩
          · have := nA_ge j; omega
          · have := nA_ge j; omega
          · rw [nA_inj h] at hj; exact hj hi
      · rw [fam2_B] at hb; cases hb
  · exfalso
    rcases Nat.lt_or_ge k 200 with hlt | hge
    · rw [mkF_lo hlt] at h1
      have := ofH_live (base_no _ _) h1
      simp only [List.mem_cons, List.not_mem_nil, or_false, Prod.mk.injEq] at this
      rw [this.2] at ho; cases ho
    · rw [mkF_hi hge] at h1
      rcases par2 k hge with ⟨j, rfl⟩ | ⟨j, rfl⟩
      · rw [fam2_A] at h1
        simp only [Cell.live.injEq] at h1
        rw [← h1] at ho; cases ho
      · rw [fam2_B] at h1; cases h1
  · have : k = 0 := by omega
    subst this; exact ⟨.inl rfl, sl 0 (by omega)⟩
end
end Go.Proofs.Ytadifmimefmcnaa.Am
set_option linter.unusedVariables false
set_option linter.unusedSimpArgs false
namespace Go.Proofs.Ytadifmimefmcnaa.Am
open Go
theorem heapApart_lit {ops : Array Oper} {steps : List Step} {A : List (List Nat)} (c : Nat) (l1 R l2 : List Nat) (hR : ∀ k, k ∈ R → 200 ≤ k) (hc : (steps.getD c default).reads = l1 ++ R ++ l2) (hk : (steps.all fun s => (keysOf s).all fun k => Nat.blt k 200) = true)
    (h : heapApart ops (steps.set c ⟨l1 ++ l2, (steps.getD c default).eff⟩) A = true) : heapApart ops steps A = true := by
  unfold heapApart at *
  rw [List.all_eq_true] at hk h ⊢
  intro i hi
  have h1 := h i hi
  rw [List.all_eq_true] at h1 ⊢
  intro j hj
  have h2 := h1 j hj
  have hset : ∀ q, ((steps.set c ⟨l1 ++ l2, (steps.getD c default).eff⟩).getD q default).eff = (steps.getD q default).eff ∧ (q ≠ c → (steps.set c ⟨l1 ++ l2, (steps.getD c default).eff⟩).getD q default = steps.getD q default) ∧ (q = c → c < steps.length → ((steps.set c ⟨l1 ++ l2, (steps.getD c default).eff⟩).getD q default).reads = l1 ++ l2) := fun q => by
    simp only [List.getD_eq_getElem?_getD, List.getElem?_set]
    by_cases e : c = q
    · subst e
      rw [if_pos rfl]
      by_cases hl : c < steps.length
      · rw [if_pos hl]; exact ⟨rfl, fun h => absurd rfl h, fun _ _ => rfl⟩
      · rw [if_neg hl, List.getElem?_eq_none_iff.2 (by omega)]; exact ⟨rfl, fun h => absurd rfl h, fun _ h => absurd h hl⟩
    · rw [if_neg e]; exact ⟨rfl, fun _ => rfl, fun h => absurd h.symm e⟩
  have kj : keysOf ((steps.set c ⟨l1 ++ l2, (steps.getD c default).eff⟩).getD j default) = keysOf (steps.getD j default) := by unfold keysOf; rw [(hset j).1]
  have ki : keysOf ((steps.set c ⟨l1 ++ l2, (steps.getD c default).eff⟩).getD i default) = keysOf (steps.getD i default) := by unfold keysOf; rw [(hset i).1]
  rw [kj, ki] at h2
  by_cases e : i = c
  · subst e
    by_cases hl : i < steps.length
    · rw [(hset i).2.2 rfl hl] at h2
      have he : (keysOf (steps.getD j default)).all (fun k => !((steps.getD i default).reads ++ keysOf (steps.getD i default)).any (Nat.beq k)) = (keysOf (steps.getD j default)).all (fun k => !(l1 ++ l2 ++ keysOf (steps.getD i default)).any (Nat.beq k)) := by
        rw [hc, Bool.eq_iff_iff, List.all_eq_true, List.all_eq_true]
        have hk2 : ∀ k, k ∈ keysOf (steps.getD j default) → k < 200 := fun k hkm => by
          rw [List.getD_eq_getElem?_getD] at hkm
          cases hjx : steps[j]? with
          | none => rw [hjx] at hkm; exact absurd hkm (by simp [keysOf, default])
          | some s =>
            rw [hjx] at hkm
            exact blt_lt (List.all_eq_true.1 (hk s (List.mem_of_getElem? hjx)) k hkm)
        have hR0 : ∀ k, k ∈ keysOf (steps.getD j default) → R.any (Nat.beq k) = false := fun k hkm => by
          rw [← Bool.not_eq_true]
          intro hh
          have := hR k (any_beq.1 hh)
          have := hk2 k hkm
          omega
        constructor
        · intro hh k hkm
          have := hh k hkm
          simp only [List.any_append, hR0 k hkm, Bool.or_false] at this ⊢
          exact this
        · intro hh k hkm
          have := hh k hkm
          simp only [List.any_append, hR0 k hkm, Bool.or_false] at this ⊢
          exact this
      rw [he]; exact h2
    · have e2 : (steps.getD i default).reads = [] := by rw [List.getD_eq_getElem?_getD, List.getElem?_eq_none_iff.2 (by omega)]; rfl
      have e3 : l1 ++ R ++ l2 = [] := by rw [← hc, e2]
      have e4 : steps.set i ⟨l1 ++ l2, (steps.getD i default).eff⟩ = steps := List.set_eq_of_length_le (by omega)
      rw [e4] at h2; exact h2
  · rw [(hset i).2.1 e] at h2; exact h2
theorem ge200 (n : Nat) : ∀ k, k ∈ (List.range n).map (· + 200) → 200 ≤ k := fun k hk => by
  obtain ⟨j, _, rfl⟩ := List.mem_map.1 hk
  show 200 ≤ j + 200
  omega
theorem aw_dL {C : Ctx} {P : Program} {Q : Exit → St → Prop} {f : Func} {n : Nat} {S S1 : St} {steps : List Step} (y c : Nat) (l1 R l2 : List Nat) (hR : ∀ k, k ∈ R → 200 ≤ k) (hr : Runs C P (opsL (sb f n)) 0 S steps S1) (h : AW C P (sb f y) S1 Q) (hc : (steps.getD c default).reads = l1 ++ R ++ l2 := by kernel_rfl)
    (hkey : (steps.all fun s => (keysOf s).all fun k => Nat.blt k 200) = true := by kernel_rfl) (hk : isSR (sb f n) true = true := by kernel_rfl) (hy : rightOf (sb f n) = sb f y := by kernel_rfl)
    (hm : P.follows .mixedOrders = true := by kernel_rfl) (hd : dstB (opsL (sb f n)) C.n = true := by kernel_rfl) (hn : steps.length = (opsL (sb f n)).size := by kernel_rfl)
    (hA : (ancOk (opsL (sb f n)) (ancC (opsL (sb f n))) && tempsApart (opsL (sb f n)) (ancC (opsL (sb f n)))) = true := by kernel_rfl) (hA2 : heapApart (opsL (sb f n)) (steps.set c ⟨l1 ++ l2, (steps.getD c default).eff⟩) (ancC (opsL (sb f n))) = true := by kernel_rfl) : AW C P (sb f n) S Q :=
  aw_d y hr h hk hy hm hd hn (by rw [hA, heapApart_lit c l1 R l2 hR hc hkey hA2]; rfl)
section
variable {C : Ctx} {S : St} {T : List (Nat × Value)} {TH TP : TypeId}
open Classical in
/-- behind the call that makes the second slice of slices -/
theorem after_keep {kh kh2 : Nat} {X Y : List Row} (T0 : List (Nat × Value)) (hm : C.m = 1) (hk : 1 ≤ kh ∧ kh < kh2 ∧ kh2 < 200) (hT : T.map (fun x => S.T x.1) = T.map (fun x => some x.2)) (cT : namesB 1 [kh, kh2] T = true)
    (hS : ∀ k, S.H k = wr (writesOf [] (famW TH TP kh2 nB Y)) (mkF 1 T0 [(kh, ⟨hds nA X, TH, false, 1⟩)] (fam2 TP X noB)).H k) :
    Weak C S (mkF C.m T [(kh, ⟨hds nA X, TH, false, 1⟩), (kh2, ⟨hds nB Y, TH, false, 1⟩)] (fam2 TP X (roB TP Y))) := by
  have h1 : S.H kh = .live ⟨hds nA X, TH, false, 1⟩ := by
    rw [hS, famW_no (by omega) (fun j => by have := nB_ge j; omega), mkF_lo (by omega)]
    show ofH (base 1 kh) [(kh, _)] kh = _
    simp only [ofH, Nat.beq_refl, cond_true]
  have h2 : S.H kh2 = .live ⟨hds nB Y, TH, true, 1⟩ := by rw [hS, famW_hd (by omega) nB_ge]
  have hA : ∀ j, S.H (nA j) = .live ⟨(X.getD j []).flatMap ptc, TP, false, 2⟩ := fun j => by
    rw [hS, famW_no (by have := nA_ge j; omega) (fun i => nA_nB j i), mkF_hi (nA_ge j), fam2_A]
  have hB : ∀ j, j < Y.length → S.H (nB j) = .live ⟨(Y.getD j []).flatMap ptc, TP, true, 2⟩ := fun j hj => by rw [hS, famW_row (by omega) nB_ge (fun i j h => nB_inj h) hj]
  clear hS
  refine weak_gen (fun k => k) (fun k => k = 0 ∨ k = kh ∨ k = kh2 ∨ (∃ j, k = nA j) ∨ ∃ j, j < Y.length ∧ k = nB j) (fun k => if (∃ j, Y.length ≤ j ∧ k = nB j) then some 2 else none) (fun t v hv => ?_) (fun k hf => .inl ?_) (fun k b hb => ?_) (fun k k' b b' hne g1 g2 ho nv => hne) (fun k hk' => ?_)
  · have hmm := ofT_some hv
    refine ⟨v, (allT_of hT).mem hmm, .same ((namesB_only cT hmm).mono fun q hq => ?_)⟩
    rcases hq with h | h
    · exact .inl (by omega)
    · simp only [List.mem_cons, List.not_mem_nil, or_false] at h
      exact h.elim (fun h => .inr (.inl h)) (fun h => .inr (.inr (.inl h)))
  · rcases Nat.lt_or_ge k 200 with hlt | hge
    · rw [mkF_lo hlt] at hf
      refine ⟨fun hp => ?_, if_neg (by rintro ⟨j, _, h⟩; have := nB_ge j; omega)⟩
      have key : k = kh ∨ k = kh2 → False := fun hp => by
        obtain ⟨b, hb⟩ := ofH_key (L := [(kh, (⟨hds nA X, TH, false, 1⟩ : Blk)), (kh2, (⟨hds nB Y, TH, false, 1⟩ : Blk))]) (d := base C.m k) (k := k) (by simpa using hp)
        rw [hb] at hf; cases hf
      rcases hp with h | h | h | ⟨j, h⟩ | ⟨j, _, h⟩
      · subst h
        have hb : ofH (base C.m 0) [(kh, (⟨hds nA X, TH, false, 1⟩ : Blk)), (kh2, (⟨hds nB Y, TH, false, 1⟩ : Blk))] 0 = base C.m 0 := ofH_nokey (by simp; omega)
        rw [hb, hm] at hf; cases hf
      · exact key (.inl h)
      · exact key (.inr h)
      · have := nA_ge j; omega
      · have := nB_ge j; omega
    · rw [mkF_hi hge] at hf
      rcases par hge with ⟨j, rfl⟩ | ⟨j, rfl⟩
      · rw [fam2_A] at hf; cases hf
      · rw [fam2_B] at hf; cases hf
  · rcases Nat.lt_or_ge k 200 with hlt | hge
    · rw [mkF_lo hlt] at hb
      have := ofH_live (base_no _ _) hb
      simp only [List.mem_cons, List.not_mem_nil, or_false, Prod.mk.injEq] at this
      rcases this with ⟨rfl, rfl⟩ | ⟨rfl, rfl⟩
      · exact .inl ⟨.inr (.inl rfl), _, h1, rfl, id, rfl, renL_hds fun j hj => ⟨.inr (.inr (.inr (.inl ⟨j, rfl⟩))), rfl⟩⟩
      · exact .inl ⟨.inr (.inr (.inl rfl)), ⟨hds nB Y, TH, true, 1⟩, h2, rfl, (fun h => by cases h), rfl, renL_hds fun j hj => ⟨.inr (.inr (.inr (.inr ⟨j, hj, rfl⟩))), rfl⟩⟩
    · rw [mkF_hi hge] at hb
      rcases par hge with ⟨j, rfl⟩ | ⟨j, rfl⟩
      · rw [fam2_A] at hb
        simp only [Cell.live.injEq] at hb
        subst hb
        exact .inl ⟨.inr (.inr (.inr (.inl ⟨j, rfl⟩))), _, hA j, renW_flat⟩
      · rw [fam2_roB] at hb
        simp only [Cell.live.injEq] at hb
        subst hb
        by_cases hj : j < Y.length
        · exact .inl ⟨.inr (.inr (.inr (.inr ⟨j, hj, rfl⟩))), ⟨(Y.getD j []).flatMap ptc, TP, true, 2⟩, hB j hj, rfl, (fun h => by cases h), rfl, .flats (flats_pair _)⟩
        · refine .inr ⟨fun hp => ?_, if_pos ⟨j, by omega, rfl⟩, rfl, out_nil (by omega)⟩
          rcases hp with h | h | h | ⟨i, h⟩ | ⟨i, hi, h⟩
          · have := nB_ge j; omega
          · have := nB_ge j; omega
          · have := nB_ge j; omega
          · exact nA_nB i j h.symm
          · rw [nB_inj h] at hj; exact hj hi
  · exact ⟨.inl (by omega), rfl⟩
open Classical in
/-- nil told as an empty slice of slices -/
theorem nil_fam {kh t : Nat} (hm : C.m = 1) (hk : 1 ≤ kh ∧ kh < 200) (ht : S.T t = some (.slice none 0 0)) (hT : T.map (fun x => S.T x.1) = T.map (fun x => some x.2)) (cT : namesB 1 [] T = true) :
    Weak C S (mkF C.m ((t, .slice (some ⟨kh, 0, none⟩) 0 0) :: T) [(kh, ⟨hds nA [], TH, false, 1⟩)] (fam2 TP [] noB)) := by
  intro ρ a w h
  let ρ' : Ren := fun k => if k = 0 then ρ 0 else if k = kh then some ⟨0, 0, 0, 1⟩ else if (∃ j, k = nA j) then some ⟨0, 0, 0, 2⟩ else none
  have r0 : ρ' 0 = ρ 0 := if_pos rfl
  have live : ∀ k b, (mkF C.m ((t, .slice (some ⟨kh, 0, none⟩) 0 0) :: T) [(kh, (⟨hds nA [], TH, false, 1⟩ : Blk))] (fam2 TP [] noB)).H k = .live b → Void b ∧ ∃ sp, ρ' k = some sp ∧ BlkOk ρ' w sp b := fun k b hb => by
    have vd : ∀ (s : Nat) (b : Blk), Void b → s = b.step → BlkOk ρ' w ⟨0, 0, 0, s⟩ b := fun s b v e => by
      rw [BlkOk.ro (by rw [v.1]; decide)]; exact ⟨e, .inl v.2, fun i u hu => by rw [v.2] at hu; simp at hu⟩
    rcases Nat.lt_or_ge k 200 with hlt | hge
    · rw [mkF_lo hlt] at hb
      have := ofH_live (base_no _ _) hb
      simp only [List.mem_cons, List.not_mem_nil, or_false, Prod.mk.injEq] at this
      obtain ⟨rfl, rfl⟩ := this
      exact ⟨⟨rfl, rfl⟩, ⟨0, 0, 0, 1⟩, by show (if k = 0 then _ else if k = k then _ else _) = _; rw [if_neg (by omega), if_pos rfl], vd 1 _ ⟨rfl, rfl⟩ rfl⟩
    · rw [mkF_hi hge] at hb
      rcases par hge with ⟨j, rfl⟩ | ⟨j, rfl⟩
      · rw [fam2_A] at hb
        simp only [Cell.live.injEq] at hb
        subst hb
        have v : Void ⟨(([] : List Row).getD j []).flatMap ptc, TP, false, 2⟩ := ⟨rfl, out_nil (by simp)⟩
        exact ⟨v, ⟨0, 0, 0, 2⟩, by show (if nA j = 0 then _ else if nA j = kh then _ else if (∃ i, nA j = nA i) then _ else _) = _; rw [if_neg (by have := nA_ge j; omega), if_neg (by have := nA_ge j; omega), if_pos ⟨j, rfl⟩], vd 2 _ v rfl⟩
      · rw [fam2_B] at hb; cases hb
  refine ⟨ρ', h.size, h.defers, fun t' v hv => ?_, ⟨fun k hf => ?_, fun k b hb => (live k b hb).2, fun k k' b b' sp sp' hne h1 h2 ho => ?_⟩, h.frame, fun k b sp hb ho => ?_, fun k hk' => ?_⟩
  · have hmm := ofT_some hv
    rcases List.mem_cons.1 hmm with e | hmm
    · cases e
      obtain ⟨v', q1, q2⟩ := h.temps t _ ht
      cases q2
      exact ⟨_, q1, .slice0 kh 0 0 none⟩
    · obtain ⟨v', q1, q2⟩ := h.temps t' v ((allT_of hT).mem hmm)
      refine ⟨v', q1, q2.congr (namesB_only cT hmm) fun q hq => ?_⟩
      rcases hq with e | e
      · rw [show q = 0 by omega, r0]
      · exact absurd e List.not_mem_nil
  · rcases Nat.lt_or_ge k 200 with hlt | hge
    · rw [mkF_lo hlt] at hf
      have n0 : k ≠ 0 := fun e => by
        subst e
        have hb : ofH (base C.m 0) [(kh, (⟨hds nA [], TH, false, 1⟩ : Blk))] 0 = base C.m 0 := ofH_nokey (by simp; omega)
        rw [hb, hm] at hf; cases hf
      have n1 : k ≠ kh := fun e => by
        subst e
        obtain ⟨b, hb⟩ := ofH_key (L := [(k, (⟨hds nA [], TH, false, 1⟩ : Blk))]) (d := base C.m k) (k := k) (by simp)
        rw [hb] at hf; cases hf
      show (if k = 0 then _ else if k = kh then _ else if (∃ j, k = nA j) then _ else none) = none
      rw [if_neg n0, if_neg n1, if_neg (by rintro ⟨j, h⟩; have := nA_ge j; omega)]
    · rw [mkF_hi hge] at hf
      rcases par hge with ⟨j, rfl⟩ | ⟨j, rfl⟩
      · rw [fam2_A] at hf; cases hf
      · show (if nB j = 0 then _ else if nB j = kh then _ else if (∃ i, nB j = nA i) then _ else none) = none
        rw [if_neg (by have := nB_ge j; omega), if_neg (by have := nB_ge j; omega), if_neg (by rintro ⟨i, h⟩; exact nA_nB i j h.symm)]
  · exact absurd (live k b h1).1 (not_void ho)
  · exact absurd (live k b hb).1 (not_void ho)
  · have : k = 0 := by omega
    subst this
    obtain ⟨sp, q1, q2⟩ := h.pin 0 (by omega)
    exact ⟨sp, q1, r0.trans q2⟩
end
end Go.Proofs.Ytadifmimefmcnaa.Am

namespace Go.Proofs.Ytadifmimefmcnaa.Am
open Go Go.Proofs
set_option maxRecDepth 100000
set_option maxHeartbeats 4000000
set_option linter.unusedVariables false
set_option linter.unusedSimpArgs false
theorem clonenil_ok  :
    AC Try.prog 50 0 ([.slice none 0 0]) [] (.slice none 0 0) [] := by
  refine ac_in Try.func50 (fun w0 W pin => ?_)
  refine aw_p 3 (
    .a 1 1 <| .nil _ _) ?_
  refine aw_sq 6 7 ?_
  refine aw_p 13 (
    .a 1 1 <| .p (does_pure (v := .bool true) (by kernel_rfl) (fun w => by kernel_rfl) (by kernel_rfl)) <| .nil _ _) ?_
  refine aw_tr 26 ?_
  refine aw_p 53 (
    .a 1 1 <| .nil _ _) ?_
  refine aw_rt ?_
  refine then_ret ?_
  exact en_ret [.slice none 0 0] (by kernel_rfl)
theorem cloneh1 (r0 : List (Int × Int)) :
    AC Try.prog 50 2 ([.slice (some ⟨0, 0, none⟩) 1 0]) [(0, ⟨[.slice (some ⟨1, 0, none⟩) r0.length 0], 24, false, 1⟩), (1, ⟨[], 29, false, 2⟩)] (.slice (some ⟨2, 0, none⟩) 1 0) [(2, ⟨[.slice (some ⟨1, 0, none⟩) r0.length 0], 24, true, 1⟩)] := by
  refine ac_in Try.func50 (fun w0 W pin => ?_)
  refine aw_p 3 (
    .a 1 2 <| .nil _ _) ?_
  refine aw_sq 6 7 ?_
  refine aw_p 13 (
    .a 1 2 <| .p (does_sln (k := 0) (off := 0) (n := 1) (c := 0) (by kernel_rfl) (by omega)) <| .nil _ _) ?_
  refine aw_fl 27 ?_
  refine aw_sk ?_
  refine then_normal ?_
  refine aw_p 15 (
    .a 2 2 <| .p (does_ap 3) <| .a 1 4 <| .nil _ _) ?_
  refine aw_r [(2, 3)] [(2, .slice (some ⟨3, 0, none⟩) 1 0)] [(0, ⟨[.slice (some ⟨1, 0, none⟩) r0.length 0], 24, false, 1⟩), (1, ⟨[], 29, false, 2⟩), (3, ⟨[.slice (some ⟨1, 0, none⟩) r0.length 0], 24, true, 1⟩)] [(2, .slice (some ⟨2, 0, none⟩) 1 0)] [(0, ⟨[.slice (some ⟨1, 0, none⟩) r0.length 0], 24, false, 1⟩), (1, ⟨[], 29, false, 2⟩), (2, ⟨[.slice (some ⟨1, 0, none⟩) r0.length 0], 24, true, 1⟩)] ?_ ⟨rfl, (.slice _ _ _ _ _ rfl), trivial⟩ ⟨rfl, ⟨rfl, rfl, rfl, (.cons (.slice _ _ _ _ _ rfl) .nil)⟩, rfl, ⟨rfl, rfl, rfl, (.flats (by kernel_rfl))⟩, rfl, ⟨rfl, rfl, rfl, (.cons (.slice _ _ _ _ _ rfl) .nil)⟩, trivial⟩
  refine aw_rt ?_
  exact en_ret [.slice (some ⟨2, 0, none⟩) 1 0] (by kernel_rfl)
theorem cloneh2 (r0 r1 : List (Int × Int)) :
    AC Try.prog 50 3 ([.slice (some ⟨0, 0, none⟩) 2 0]) [(0, ⟨[.slice (some ⟨1, 0, none⟩) r0.length 0, .slice (some ⟨2, 0, none⟩) r1.length 0], 24, false, 1⟩), (1, ⟨[], 29, false, 2⟩), (2, ⟨[], 29, false, 2⟩)] (.slice (some ⟨3, 0, none⟩) 2 0) [(3, ⟨[.slice (some ⟨1, 0, none⟩) r0.length 0, .slice (some ⟨2, 0, none⟩) r1.length 0], 24, true, 1⟩)] := by
  refine ac_in Try.func50 (fun w0 W pin => ?_)
  refine aw_p 3 (
    .a 1 3 <| .nil _ _) ?_
  refine aw_sq 6 7 ?_
  refine aw_p 13 (
    .a 1 3 <| .p (does_sln (k := 0) (off := 0) (n := 2) (c := 0) (by kernel_rfl) (by omega)) <| .nil _ _) ?_
  refine aw_fl 27 ?_
  refine aw_sk ?_
  refine then_normal ?_
  refine aw_p 15 (
    .a 2 3 <| .p (does_ap 4) <| .a 1 5 <| .nil _ _) ?_
  refine aw_r [(3, 4)] [(2, .slice (some ⟨4, 0, none⟩) 2 0)] [(0, ⟨[.slice (some ⟨1, 0, none⟩) r0.length 0, .slice (some ⟨2, 0, none⟩) r1.length 0], 24, false, 1⟩), (1, ⟨[], 29, false, 2⟩), (2, ⟨[], 29, false, 2⟩), (4, ⟨[.slice (some ⟨1, 0, none⟩) r0.length 0, .slice (some ⟨2, 0, none⟩) r1.length 0], 24, true, 1⟩)] [(2, .slice (some ⟨3, 0, none⟩) 2 0)] [(0, ⟨[.slice (some ⟨1, 0, none⟩) r0.length 0, .slice (some ⟨2, 0, none⟩) r1.length 0], 24, false, 1⟩), (1, ⟨[], 29, false, 2⟩), (2, ⟨[], 29, false, 2⟩), (3, ⟨[.slice (some ⟨1, 0, none⟩) r0.length 0, .slice (some ⟨2, 0, none⟩) r1.length 0], 24, true, 1⟩)] ?_ ⟨rfl, (.slice _ _ _ _ _ rfl), trivial⟩ ⟨rfl, ⟨rfl, rfl, rfl, (.cons (.slice _ _ _ _ _ rfl) (.cons (.slice _ _ _ _ _ rfl) .nil))⟩, rfl, ⟨rfl, rfl, rfl, (.flats (by kernel_rfl))⟩, rfl, ⟨rfl, rfl, rfl, (.flats (by kernel_rfl))⟩, rfl, ⟨rfl, rfl, rfl, (.cons (.slice _ _ _ _ _ rfl) (.cons (.slice _ _ _ _ _ rfl) .nil))⟩, trivial⟩
  refine aw_rt ?_
  exact en_ret [.slice (some ⟨3, 0, none⟩) 2 0] (by kernel_rfl)
theorem cloneh3 (r0 r1 r2 : List (Int × Int)) :
    AC Try.prog 50 4 ([.slice (some ⟨0, 0, none⟩) 3 0]) [(0, ⟨[.slice (some ⟨1, 0, none⟩) r0.length 0, .slice (some ⟨2, 0, none⟩) r1.length 0, .slice (some ⟨3, 0, none⟩) r2.length 0], 24, false, 1⟩), (1, ⟨[], 29, false, 2⟩), (2, ⟨[], 29, false, 2⟩), (3, ⟨[], 29, false, 2⟩)] (.slice (some ⟨4, 0, none⟩) 3 0) [(4, ⟨[.slice (some ⟨1, 0, none⟩) r0.length 0, .slice (some ⟨2, 0, none⟩) r1.length 0, .slice (some ⟨3, 0, none⟩) r2.length 0], 24, true, 1⟩)] := by
  refine ac_in Try.func50 (fun w0 W pin => ?_)
  refine aw_p 3 (
    .a 1 4 <| .nil _ _) ?_
  refine aw_sq 6 7 ?_
  refine aw_p 13 (
    .a 1 4 <| .p (does_sln (k := 0) (off := 0) (n := 3) (c := 0) (by kernel_rfl) (by omega)) <| .nil _ _) ?_
  refine aw_fl 27 ?_
  refine aw_sk ?_
  refine then_normal ?_
  refine aw_p 15 (
    .a 2 4 <| .p (does_ap 5) <| .a 1 6 <| .nil _ _) ?_
  refine aw_r [(4, 5)] [(2, .slice (some ⟨5, 0, none⟩) 3 0)] [(0, ⟨[.slice (some ⟨1, 0, none⟩) r0.length 0, .slice (some ⟨2, 0, none⟩) r1.length 0, .slice (some ⟨3, 0, none⟩) r2.length 0], 24, false, 1⟩), (1, ⟨[], 29, false, 2⟩), (2, ⟨[], 29, false, 2⟩), (3, ⟨[], 29, false, 2⟩), (5, ⟨[.slice (some ⟨1, 0, none⟩) r0.length 0, .slice (some ⟨2, 0, none⟩) r1.length 0, .slice (some ⟨3, 0, none⟩) r2.length 0], 24, true, 1⟩)] [(2, .slice (some ⟨4, 0, none⟩) 3 0)] [(0, ⟨[.slice (some ⟨1, 0, none⟩) r0.length 0, .slice (some ⟨2, 0, none⟩) r1.length 0, .slice (some ⟨3, 0, none⟩) r2.length 0], 24, false, 1⟩), (1, ⟨[], 29, false, 2⟩), (2, ⟨[], 29, false, 2⟩), (3, ⟨[], 29, false, 2⟩), (4, ⟨[.slice (some ⟨1, 0, none⟩) r0.length 0, .slice (some ⟨2, 0, none⟩) r1.length 0, .slice (some ⟨3, 0, none⟩) r2.length 0], 24, true, 1⟩)] ?_ ⟨rfl, (.slice _ _ _ _ _ rfl), trivial⟩ ⟨rfl, ⟨rfl, rfl, rfl, (.cons (.slice _ _ _ _ _ rfl) (.cons (.slice _ _ _ _ _ rfl) (.cons (.slice _ _ _ _ _ rfl) .nil)))⟩, rfl, ⟨rfl, rfl, rfl, (.flats (by kernel_rfl))⟩, rfl, ⟨rfl, rfl, rfl, (.flats (by kernel_rfl))⟩, rfl, ⟨rfl, rfl, rfl, (.flats (by kernel_rfl))⟩, rfl, ⟨rfl, rfl, rfl, (.cons (.slice _ _ _ _ _ rfl) (.cons (.slice _ _ _ _ _ rfl) (.cons (.slice _ _ _ _ _ rfl) .nil)))⟩, trivial⟩
  refine aw_rt ?_
  exact en_ret [.slice (some ⟨4, 0, none⟩) 3 0] (by kernel_rfl)
theorem cloneh4 (r0 r1 r2 r3 : List (Int × Int)) :
    AC Try.prog 50 5 ([.slice (some ⟨0, 0, none⟩) 4 0]) [(0, ⟨[.slice (some ⟨1, 0, none⟩) r0.length 0, .slice (some ⟨2, 0, none⟩) r1.length 0, .slice (some ⟨3, 0, none⟩) r2.length 0, .slice (some ⟨4, 0, none⟩) r3.length 0], 24, false, 1⟩), (1, ⟨[], 29, false, 2⟩), (2, ⟨[], 29, false, 2⟩), (3, ⟨[], 29, false, 2⟩), (4, ⟨[], 29, false, 2⟩)] (.slice (some ⟨5, 0, none⟩) 4 0) [(5, ⟨[.slice (some ⟨1, 0, none⟩) r0.length 0, .slice (some ⟨2, 0, none⟩) r1.length 0, .slice (some ⟨3, 0, none⟩) r2.length 0, .slice (some ⟨4, 0, none⟩) r3.length 0], 24, true, 1⟩)] := by
  refine ac_in Try.func50 (fun w0 W pin => ?_)
  refine aw_p 3 (
    .a 1 5 <| .nil _ _) ?_
  refine aw_sq 6 7 ?_
  refine aw_p 13 (
    .a 1 5 <| .p (does_sln (k := 0) (off := 0) (n := 4) (c := 0) (by kernel_rfl) (by omega)) <| .nil _ _) ?_
  refine aw_fl 27 ?_
  refine aw_sk ?_
  refine then_normal ?_
  refine aw_p 15 (
    .a 2 5 <| .p (does_ap 6) <| .a 1 7 <| .nil _ _) ?_
  refine aw_r [(5, 6)] [(2, .slice (some ⟨6, 0, none⟩) 4 0)] [(0, ⟨[.slice (some ⟨1, 0, none⟩) r0.length 0, .slice (some ⟨2, 0, none⟩) r1.length 0, .slice (some ⟨3, 0, none⟩) r2.length 0, .slice (some ⟨4, 0, none⟩) r3.length 0], 24, false, 1⟩), (1, ⟨[], 29, false, 2⟩), (2, ⟨[], 29, false, 2⟩), (3, ⟨[], 29, false, 2⟩), (4, ⟨[], 29, false, 2⟩), (6, ⟨[.slice (some ⟨1, 0, none⟩) r0.length 0, .slice (some ⟨2, 0, none⟩) r1.length 0, .slice (some ⟨3, 0, none⟩) r2.length 0, .slice (some ⟨4, 0, none⟩) r3.length 0], 24, true, 1⟩)] [(2, .slice (some ⟨5, 0, none⟩) 4 0)] [(0, ⟨[.slice (some ⟨1, 0, none⟩) r0.length 0, .slice (some ⟨2, 0, none⟩) r1.length 0, .slice (some ⟨3, 0, none⟩) r2.length 0, .slice (some ⟨4, 0, none⟩) r3.length 0], 24, false, 1⟩), (1, ⟨[], 29, false, 2⟩), (2, ⟨[], 29, false, 2⟩), (3, ⟨[], 29, false, 2⟩), (4, ⟨[], 29, false, 2⟩), (5, ⟨[.slice (some ⟨1, 0, none⟩) r0.length 0, .slice (some ⟨2, 0, none⟩) r1.length 0, .slice (some ⟨3, 0, none⟩) r2.length 0, .slice (some ⟨4, 0, none⟩) r3.length 0], 24, true, 1⟩)] ?_ ⟨rfl, (.slice _ _ _ _ _ rfl), trivial⟩ ⟨rfl, ⟨rfl, rfl, rfl, (.cons (.slice _ _ _ _ _ rfl) (.cons (.slice _ _ _ _ _ rfl) (.cons (.slice _ _ _ _ _ rfl) (.cons (.slice _ _ _ _ _ rfl) .nil))))⟩, rfl, ⟨rfl, rfl, rfl, (.flats (by kernel_rfl))⟩, rfl, ⟨rfl, rfl, rfl, (.flats (by kernel_rfl))⟩, rfl, ⟨rfl, rfl, rfl, (.flats (by kernel_rfl))⟩, rfl, ⟨rfl, rfl, rfl, (.flats (by kernel_rfl))⟩, rfl, ⟨rfl, rfl, rfl, (.cons (.slice _ _ _ _ _ rfl) (.cons (.slice _ _ _ _ _ rfl) (.cons (.slice _ _ _ _ _ rfl) (.cons (.slice _ _ _ _ _ rfl) .nil))))⟩, trivial⟩
  refine aw_rt ?_
  exact en_ret [.slice (some ⟨5, 0, none⟩) 4 0] (by kernel_rfl)
theorem cloneh_ok (X : List Row) (h : 1 ≤ X.length ∧ X.length ≤ 4) : AC Try.prog 50 (1 + X.length) [.slice (some ⟨0, 0, none⟩) X.length 0] (cloP 24 29 X) (.slice (some ⟨1 + X.length, 0, none⟩) X.length 0) [(1 + X.length, ⟨hds (· + 1) X, 24, true, 1⟩)] := by
  match X, h with
  | [r0], _ => exact cloneh1 r0
  | [r0, r1], _ => exact cloneh2 r0 r1
  | [r0, r1, r2], _ => exact cloneh3 r0 r1 r2
  | [r0, r1, r2, r3], _ => exact cloneh4 r0 r1 r2 r3
  | [], h => simp at h
  | _ :: _ :: _ :: _ :: _ :: _, h => simp at h
end Go.Proofs.Ytadifmimefmcnaa.Am

namespace Go.Proofs.Ytadifmimefmcnaa.Am.Sp
def lim (m n : Int) : Int := max (-m) (min n m)
def cmp (a b : Int) : Int := if a < b then -1 else if b < a then 1 else 0
def sgn (a : Int) : Int := if a < 0 then -1 else if 0 < a then 1 else 0
theorem lim_bd {m : Int} (hm : 0 ≤ m) (n : Int) : -m ≤ lim m n ∧ lim m n ≤ m := by unfold lim; omega
theorem emod_bd (x : Int) {n : Int} (h : 0 < n) : 0 ≤ x % n ∧ x % n < n := ⟨Int.emod_nonneg x (by omega), Int.emod_lt_of_pos x h⟩
theorem tmod_lo {x n : Int} (hn : 0 < n) : -n < Int.tmod x n := by
  have h1 := Int.tmod_eq_emod (a := x) (b := n)
  have := emod_bd x hn
  split at h1 <;> omega
theorem below_neg {x n : Int} (hn : 0 < n) (h : Int.tmod x n < 0) : Int.tmod x n + n = x % n := by
  have h1 := Int.tmod_eq_emod (a := x) (b := n)
  have := emod_bd x hn
  split at h1 <;> omega
theorem below_pos {x n : Int} (hn : 0 < n) (h : ¬ Int.tmod x n < 0) : Int.tmod x n = x % n := by
  have h1 := Int.tmod_eq_emod (a := x) (b := n)
  have := emod_bd x hn
  split at h1 <;> omega
theorem mul_bd {a b A B : Int} (h1 : -A ≤ a) (h2 : a ≤ A) (h3 : -B ≤ b) (h4 : b ≤ B) : -(A * B) ≤ a * b ∧ a * b ≤ A * B := by
  have hA : 0 ≤ A := by omega
  have hB : 0 ≤ B := by omega
  have e1 : 0 ≤ (A - a) * (B - b) := Int.mul_nonneg (by omega) (by omega)
  have e2 : 0 ≤ (A + a) * (B + b) := Int.mul_nonneg (by omega) (by omega)
  have e3 : 0 ≤ (A - a) * (B + b) := Int.mul_nonneg (by omega) (by omega)
  have e4 : 0 ≤ (A + a) * (B - b) := Int.mul_nonneg (by omega) (by omega)
  constructor <;> grind
def crs (ax ay bx b_y cx cy : Int) : Int := (bx - ax) * (cy - ay) - (b_y - ay) * (cx - ax)
def dot (ax ay bx b_y cx cy : Int) : Int := (bx - ax) * (cx - ax) + (b_y - ay) * (cy - ay)
theorem lim_id {m n : Int} (h1 : -m ≤ n) (h2 : n ≤ m) : lim m n = n := by unfold lim; omega
theorem cmp_zero (a b : Int) : cmp a b = 0 ↔ a = b := by unfold cmp; (repeat' split) <;> omega
theorem cmp_bd (a b : Int) : -1 ≤ cmp a b ∧ cmp a b ≤ 1 := by unfold cmp; (repeat' split) <;> omega
theorem cmp_le (a b : Int) : cmp a b ≤ 0 ↔ a ≤ b := by unfold cmp; (repeat' split) <;> omega
end Go.Proofs.Ytadifmimefmcnaa.Am.Sp
namespace Go.Proofs.Ytadifmimefmcnaa.Am.Sp
end Go.Proofs.Ytadifmimefmcnaa.Am.Sp
namespace Go.Proofs.Ytadifmimefmcnaa.Am.Sp
def onb (ax ay bx b_y px py : Int) : Bool := cmp (crs ax ay bx b_y px py) 0 == 0 && decide (dot px py ax ay bx b_y ≤ 0)
theorem crs_anti (ax ay bx b_y cx cy : Int) : crs ax ay bx b_y cx cy = 0 - crs bx b_y ax ay cx cy := by unfold crs; grind
theorem dot_comm (ax ay bx b_y cx cy : Int) : dot ax ay bx b_y cx cy = dot ax ay cx cy bx b_y := by unfold dot; grind
theorem lagrange (ax ay bx b_y cx cy : Int) : crs ax ay bx b_y cx cy * crs ax ay bx b_y cx cy + dot ax ay bx b_y cx cy * dot ax ay bx b_y cx cy = dot ax ay bx b_y bx b_y * dot ax ay cx cy cx cy := by
  unfold crs dot
  generalize bx - ax = u; generalize b_y - ay = v; generalize cx - ax = s; generalize cy - ay = t
  grind
theorem crs_bd {ax ay bx b_y cx cy M : Int} (_hM : 0 ≤ M) (h : (-M ≤ ax ∧ ax ≤ M) ∧ (-M ≤ ay ∧ ay ≤ M) ∧ (-M ≤ bx ∧ bx ≤ M) ∧ (-M ≤ b_y ∧ b_y ≤ M) ∧ (-M ≤ cx ∧ cx ≤ M) ∧ (-M ≤ cy ∧ cy ≤ M)) :
    (-(2 * (2 * M * (2 * M))) ≤ crs ax ay bx b_y cx cy ∧ crs ax ay bx b_y cx cy ≤ 2 * (2 * M * (2 * M))) ∧ (-(2 * (2 * M * (2 * M))) ≤ dot ax ay bx b_y cx cy ∧ dot ax ay bx b_y cx cy ≤ 2 * (2 * M * (2 * M))) := by
  obtain ⟨h1, h2, h3, h4, h5, h6⟩ := h
  unfold crs dot
  have p1 := mul_bd (a := bx - ax) (b := cy - ay) (A := 2 * M) (B := 2 * M) (by omega) (by omega) (by omega) (by omega)
  have p2 := mul_bd (a := b_y - ay) (b := cx - ax) (A := 2 * M) (B := 2 * M) (by omega) (by omega) (by omega) (by omega)
  have p3 := mul_bd (a := bx - ax) (b := cx - ax) (A := 2 * M) (B := 2 * M) (by omega) (by omega) (by omega) (by omega)
  have p4 := mul_bd (a := b_y - ay) (b := cy - ay) (A := 2 * M) (B := 2 * M) (by omega) (by omega) (by omega) (by omega)
  omega
theorem sqr_nonneg (a : Int) : 0 ≤ a * a := by
  rcases Int.le_total 0 a with q | q
  · exact Int.mul_nonneg q q
  · exact Int.mul_nonneg_of_nonpos_of_nonpos q q
theorem dot_nonneg (ax ay bx b_y : Int) : 0 ≤ dot ax ay bx b_y bx b_y := by
  unfold dot
  have := sqr_nonneg (bx - ax); have := sqr_nonneg (b_y - ay); omega
theorem onb_iff (ax ay bx b_y px py : Int) : onb ax ay bx b_y px py = true ↔ crs ax ay bx b_y px py = 0 ∧ dot px py ax ay bx b_y ≤ 0 := by
  unfold onb
  rw [Bool.and_eq_true, beq_iff_eq, cmp_zero, decide_eq_true_iff]
theorem onb_comm (ax ay bx b_y px py : Int) : onb ax ay bx b_y px py = onb bx b_y ax ay px py := by
  rw [Bool.eq_iff_iff, onb_iff, onb_iff, crs_anti ax, dot_comm px]
  omega
theorem onb_a (ax ay bx b_y : Int) : onb ax ay bx b_y ax ay = true := by
  rw [onb_iff]; unfold crs dot; grind
theorem onb_b (ax ay bx b_y : Int) : onb ax ay bx b_y bx b_y = true := by
  rw [onb_iff]; unfold crs dot; grind
def quarter (x y : Int) : Int := if x = 0 ∧ y = 0 then 0 else if 0 < x ∧ 0 ≤ y then 1 else if x ≤ 0 ∧ 0 < y then 2 else if x < 0 then 3 else 4
end Go.Proofs.Ytadifmimefmcnaa.Am.Sp
namespace Go.Proofs.Ytadifmimefmcnaa.Am.Sp
def pw (j : Nat) : Int := 2 ^ j
def p4 (j : Nat) : Int := 4 ^ j
def ty (x y s r u : Int) : Int := if u = 1 then y else if r = 1 then s - 1 - x else x
end Go.Proofs.Ytadifmimefmcnaa.Am.Sp
namespace Go.Proofs.Ytadifmimefmcnaa.Am.Sp
def sd : Nat → Int
  | 0 => 0
  | j + 1 => pw j
def okb (x y : Int) : Bool := (x == lim 1048576 x) && ((y == lim 1048576 y) && true)
theorem okb_iff (x y : Int) : okb x y = true ↔ (-1048576 ≤ x ∧ x ≤ 1048576) ∧ (-1048576 ≤ y ∧ y ≤ 1048576) := by
  unfold okb lim
  rw [Bool.and_eq_true, Bool.and_eq_true, beq_iff_eq, beq_iff_eq]
  simp only [and_true]
  omega
end Go.Proofs.Ytadifmimefmcnaa.Am.Sp
namespace Go.Proofs.Ytadifmimefmcnaa.Am.Sp
def lc (px py ax ay dx dy : Int) : Int := (px - ax) * dx + (py - ay) * dy
end Go.Proofs.Ytadifmimefmcnaa.Am.Sp
namespace Go.Proofs.Ytadifmimefmcnaa.Am.Sp
def mn (a b : Int) : Int := if b < a then b else a
def mx (a b : Int) : Int := if b > a then b else a
def inbox (lx ly hx hy px py : Int) : Bool := decide (lx ≤ px) && (decide (px ≤ hx) && (decide (ly ≤ py) && decide (py ≤ hy)))
def bok (lx ly hx hy : Int) : Bool := okb lx ly && (okb hx hy && (decide (lx ≤ hx) && decide (ly ≤ hy)))
def meet (a b c d e f g h : Int) : Bool := inbox a b c d (mx a e) (mx b f) && inbox e f g h (mx a e) (mx b f)
end Go.Proofs.Ytadifmimefmcnaa.Am.Sp

namespace Go.Proofs.Ytadifmimefmcnaa.Am
open Go Go.Proofs
set_option maxRecDepth 100000
set_option maxHeartbeats 4000000
set_option linter.unusedVariables false
set_option linter.unusedSimpArgs false
theorem limit_ok (n m : Int) (h0 : 0 ≤ m) (h1 : m ≤ 4611686018427387904) :
    AC Try.prog 101 0 ([.int .i64 n, .int .i64 m]) [] (.int .i64 (Sp.lim m n)) [] := by
  refine ac_in Try.func101 (fun w0 W pin => ?_)
  refine aw_p 3 (
    .a 1 1 <| .nil _ _) ?_
  refine aw_p 7 (
    .a 1 1 <| .p (does_i (0 - m) (wrap_i64 (by omega) (by omega)) .i64) <| .a 5 1 <| .nil _ _) ?_
  refine aw_rt ?_
  exact en_ret [.int .i64 (if (if m < n then m else n) > (0 - m) then (if m < n then m else n) else (0 - m))] (show (.int .i64 (if (if m < n then m else n) > (0 - m) then (if m < n then m else n) else (0 - m)) : Value) = (.int .i64 (Sp.lim m n)) from (congrArg (Value.int .i64) (show (if (if m < n then m else n) > (0 - m) then (if m < n then m else n) else (0 - m)) = (Sp.lim m n) from by (first | rfl | (simp only [Sp.lim, Sp.cmp, Sp.sgn]; (repeat' split) <;> omega)))))
theorem clamp_ok (x y : Int) :
    AC Try.prog 56 0 ([.agg #[.int .i64 x, .int .i64 y]]) [] (.agg #[.int .i64 (Sp.lim 1048576 x), .int .i64 (Sp.lim 1048576 y)]) [] := by
  refine ac_in Try.func56 (fun w0 W pin => ?_)
  refine aw_p 3 (
    .a 2 1 <| .nil _ _) ?_
  refine aw_d 7 (
    .a 2 3 <| .p (does_c (limit_ok x 1048576 (by decide) (by decide))) <| .a 2 3 <| .p (does_c (limit_ok y 1048576 (by decide) (by decide))) <| .a 2 3 <| .nil _ _) ?_
  refine aw_rt ?_
  exact en_ret [.agg #[.int .i64 (Sp.lim 1048576 x), .int .i64 (Sp.lim 1048576 y)]] (by kernel_rfl)
theorem pok_ok (x y : Int) :
    AC Try.prog 64 0 ([.agg #[.int .i64 x, .int .i64 y]]) [] (.bool ((x == (Sp.lim 1048576 x)) && ((y == (Sp.lim 1048576 y)) && true))) [] := by
  refine ac_in Try.func64 (fun w0 W pin => ?_)
  refine aw_p 3 (
    .a 2 1 <| .nil _ _) ?_
  refine aw_d 7 (
    .a 2 2 <| .p (does_c (clamp_ok x y)) <| .p (does_e ((x == (Sp.lim 1048576 x)) && ((y == (Sp.lim 1048576 y)) && true)) (rfl)) <| .a 1 2 <| .nil _ _) ?_
  refine aw_rt ?_
  exact en_ret [.bool ((x == (Sp.lim 1048576 x)) && ((y == (Sp.lim 1048576 y)) && true))] (by kernel_rfl)
theorem isnan_ok (x : Int) :
    AC Try.prog 116 0 ([.int .i64 x]) [] (.bool false) [] := by
  refine ac_in Try.func116 (fun w0 W pin => ?_)
  refine aw_p 3 (
    .a 1 1 <| .nil _ _) ?_
  refine aw_p 7 (
    .a 2 1 <| .p (does_b false ((show (x != x) = false from by simp))) <| .a 1 1 <| .nil _ _) ?_
  refine aw_rt ?_
  exact en_ret [.bool false] (by kernel_rfl)
theorem compare_ok (x y : Int) :
    AC Try.prog 79 0 ([.int .i64 x, .int .i64 y]) [] (.int .i64 (Sp.cmp x y)) [] := by
  refine ac_in Try.func79 (fun w0 W pin => ?_)
  refine aw_p 3 (
    .a 1 1 <| .nil _ _) ?_
  refine aw_p 7 (
    .a 1 1 <| .p (does_c (isnan_ok x)) <| .a 1 1 <| .nil _ _) ?_
  refine aw_p 15 (
    .a 1 1 <| .p (does_c (isnan_ok y)) <| .a 1 1 <| .nil _ _) ?_
  refine aw_sq 30 31 ?_
  refine aw_p 61 (
    .a 1 1 <| .nil _ _) ?_
  refine aw_fl 123 ?_
  refine aw_sk ?_
  refine then_normal ?_
  refine aw_sq 62 63 ?_
  refine aw_p 125 (
    .a 1 1 <| .nil _ _) ?_
  refine aw_fl 251 ?_
  refine aw_sk ?_
  refine then_normal ?_
  refine aw_sq 126 127 ?_
  refine aw_p 253 (
    .a 3 1 <| .nil _ _) ?_
  refine aw_cd 506 507 (decide (x < y)) (fun h1 => ?_) (fun h1 => ?_)
  · have h1p : ((x < y)) := by first | (simpa using h1) | (have h1q := h1; simp at h1q; omega) | (have h1q := bx1 h1; simp at h1q; omega)
    refine aw_p 1013 (
      .a 1 1 <| .nil _ _) ?_
    refine aw_rt ?_
    refine then_ret ?_
    exact en_ret [.int .i64 (-1)] (show (.int .i64 (-1) : Value) = (.int .i64 (Sp.cmp x y)) from (congrArg (Value.int .i64) (show (-1) = (Sp.cmp x y) from by (simp only [decide_eq_true_eq, decide_eq_false_iff_not] at *; simp only [Sp.lim, Sp.cmp, Sp.sgn]; (repeat' split) <;> omega))))
  · have h1p : ¬ ((x < y)) := by first | (simpa using h1) | (have h1q := h1; simp at h1q; omega) | (have h1q := bx2 h1; simp at h1q; omega)
    refine aw_sk ?_
    refine then_normal ?_
    refine aw_sq 254 255 ?_
    refine aw_p 509 (
      .a 3 1 <| .nil _ _) ?_
    refine aw_cd 1018 1019 (decide (x > y)) (fun h2 => ?_) (fun h2 => ?_)
    · have h2p : ((x > y)) := by first | (simpa using h2) | (have h2q := h2; simp at h2q; omega) | (have h2q := bx1 h2; simp at h2q; omega)
      refine aw_p 2037 (
        .a 1 1 <| .nil _ _) ?_
      refine aw_rt ?_
      refine then_ret ?_
      exact en_ret [.int .i64 1] (show (.int .i64 1 : Value) = (.int .i64 (Sp.cmp x y)) from (congrArg (Value.int .i64) (show 1 = (Sp.cmp x y) from by (simp only [decide_eq_true_eq, decide_eq_false_iff_not] at *; simp only [Sp.lim, Sp.cmp, Sp.sgn]; (repeat' split) <;> omega))))
    · have h2p : ¬ ((x > y)) := by first | (simpa using h2) | (have h2q := h2; simp at h2q; omega) | (have h2q := bx2 h2; simp at h2q; omega)
      refine aw_sk ?_
      refine then_normal ?_
      refine aw_p 511 (
        .a 1 1 <| .nil _ _) ?_
      refine aw_rt ?_
      exact en_ret [.int .i64 0] (show (.int .i64 0 : Value) = (.int .i64 (Sp.cmp x y)) from (congrArg (Value.int .i64) (show 0 = (Sp.cmp x y) from by (simp only [decide_eq_true_eq, decide_eq_false_iff_not] at *; simp only [Sp.lim, Sp.cmp, Sp.sgn]; (repeat' split) <;> omega))))
theorem below_ok (x n : Int) (h0 : 0 < n) (hz : n ≤ 9223372036854775807) :
    AC Try.prog 15 0 ([.int .i64 x, .int .i64 n]) [] (.int .i64 (x % n)) [] := by
  have hlo := Sp.tmod_lo (x := x) h0
  refine ac_in Try.func15 (fun w0 W pin => ?_)
  refine aw_p 3 (
    .a 1 1 <| .nil _ _) ?_
  refine aw_p 7 (
    .a 2 1 <| .p (does_rem (t := 3) (t2 := 3) (x := .tmp 5) (y := .tmp 6) (k := .i64) (a := x) (b := n) (by kernel_rfl) (by kernel_rfl) (by kernel_rfl) (by omega)) <| .a 1 1 <| .nil _ _) ?_
  refine aw_sq 14 15 ?_
  refine aw_p 29 (
    .a 2 1 <| .nil _ _) ?_
  refine aw_cd 58 59 (decide ((Int.tmod x n) < 0)) (fun h1 => ?_) (fun h1 => ?_)
  · have h1p : (((Int.tmod x n) < 0)) := by first | (simpa using h1) | (have h1q := h1; simp at h1q; omega) | (have h1q := bx1 h1; simp at h1q; omega)
    refine aw_p1 (
      .a 2 1 <| .p (does_i ((Int.tmod x n) + n) (wrap_i64 (by omega) (by omega)) .i64) <| .a 1 1 <| .nil _ _) ?_
    refine then_normal ?_
    refine aw_p 31 (
      .a 2 1 <| .nil _ _) ?_
    refine aw_rt ?_
    exact en_ret [.int .i64 ((Int.tmod x n) + n)] (show (.int .i64 ((Int.tmod x n) + n) : Value) = (.int .i64 (x % n)) from (congrArg (Value.int .i64) (show ((Int.tmod x n) + n) = (x % n) from by (first | exact Sp.below_neg h0 (by assumption) | exact Sp.below_pos h0 (by omega)))))
  · have h1p : ¬ (((Int.tmod x n) < 0)) := by first | (simpa using h1) | (have h1q := h1; simp at h1q; omega) | (have h1q := bx2 h1; simp at h1q; omega)
    refine aw_sk ?_
    refine then_normal ?_
    refine aw_p 31 (
      .a 2 1 <| .nil _ _) ?_
    refine aw_rt ?_
    exact en_ret [.int .i64 (Int.tmod x n)] (show (.int .i64 (Int.tmod x n) : Value) = (.int .i64 (x % n)) from (congrArg (Value.int .i64) (show (Int.tmod x n) = (x % n) from by (first | exact Sp.below_neg h0 (by assumption) | exact Sp.below_pos h0 (by omega)))))
theorem way_ok (ax ay bx b_y : Int) :
    AC Try.prog 117 0 ([.agg #[.int .i64 ax, .int .i64 ay], .agg #[.int .i64 bx, .int .i64 b_y]]) [] (.agg #[.int .i64 (Sp.lim 1048576 bx - Sp.lim 1048576 ax), .int .i64 (Sp.lim 1048576 b_y - Sp.lim 1048576 ay)]) [] := by
  have q1 := Sp.lim_bd (m := 1048576) (by decide) ax; have q2 := Sp.lim_bd (m := 1048576) (by decide) ay; have q3 := Sp.lim_bd (m := 1048576) (by decide) bx; have q4 := Sp.lim_bd (m := 1048576) (by decide) b_y
  refine ac_in Try.func117 (fun w0 W pin => ?_)
  refine aw_p 3 (
    .a 3 1 <| .nil _ _) ?_
  refine aw_d 7 (
    .a 1 4 <| .p (does_c (clamp_ok ax ay)) <| .a 1 4 <| .p (does_c (clamp_ok bx b_y)) <| .a 2 4 <| .nil _ _) ?_
  refine aw_p 15 (
    .a 4 4 <| .p (does_i ((Sp.lim 1048576 bx) - (Sp.lim 1048576 ax)) (wrap_i64 (by omega) (by omega)) .i64) <| .a 4 4 <| .p (does_i ((Sp.lim 1048576 b_y) - (Sp.lim 1048576 ay)) (wrap_i64 (by omega) (by omega)) .i64) <| .a 2 4 <| .nil _ _) ?_
  refine aw_rt ?_
  exact en_ret [.agg #[.int .i64 ((Sp.lim 1048576 bx) - (Sp.lim 1048576 ax)), .int .i64 ((Sp.lim 1048576 b_y) - (Sp.lim 1048576 ay))]] (show (.agg #[.int .i64 ((Sp.lim 1048576 bx) - (Sp.lim 1048576 ax)), .int .i64 ((Sp.lim 1048576 b_y) - (Sp.lim 1048576 ay))] : Value) = (.agg #[.int .i64 (Sp.lim 1048576 bx - Sp.lim 1048576 ax), .int .i64 (Sp.lim 1048576 b_y - Sp.lim 1048576 ay)]) from (congrArg (fun z : List Value => Value.agg z.toArray) (lcons (congrArg (Value.int .i64) (show ((Sp.lim 1048576 bx) - (Sp.lim 1048576 ax)) = (Sp.lim 1048576 bx - Sp.lim 1048576 ax) from by rfl)) (lcons (congrArg (Value.int .i64) (show ((Sp.lim 1048576 b_y) - (Sp.lim 1048576 ay)) = (Sp.lim 1048576 b_y - Sp.lim 1048576 ay) from by rfl)) rfl))))
theorem cross_ok (ax ay bx b_y cx cy : Int) :
    AC Try.prog 80 0 ([.agg #[.int .i64 ax, .int .i64 ay], .agg #[.int .i64 bx, .int .i64 b_y], .agg #[.int .i64 cx, .int .i64 cy]]) [] (.int .i64 (Sp.crs (Sp.lim 1048576 ax) (Sp.lim 1048576 ay) (Sp.lim 1048576 bx) (Sp.lim 1048576 b_y) (Sp.lim 1048576 cx) (Sp.lim 1048576 cy))) [] := by
  have qax := Sp.lim_bd (m := 1048576) (by decide) ax; have qay := Sp.lim_bd (m := 1048576) (by decide) ay; have qbx := Sp.lim_bd (m := 1048576) (by decide) bx; have qb_y := Sp.lim_bd (m := 1048576) (by decide) b_y; have qcx := Sp.lim_bd (m := 1048576) (by decide) cx; have qcy := Sp.lim_bd (m := 1048576) (by decide) cy; have p0 := Sp.mul_bd (a := Sp.lim 1048576 bx - Sp.lim 1048576 ax) (b := Sp.lim 1048576 cy - Sp.lim 1048576 ay) (A := 2097152) (B := 2097152) (by omega) (by omega) (by omega) (by omega); have p1 := Sp.mul_bd (a := Sp.lim 1048576 b_y - Sp.lim 1048576 ay) (b := Sp.lim 1048576 cx - Sp.lim 1048576 ax) (A := 2097152) (B := 2097152) (by omega) (by omega) (by omega) (by omega)
  refine ac_in Try.func80 (fun w0 W pin => ?_)
  refine aw_p 3 (
    .a 4 1 <| .nil _ _) ?_
  refine aw_d 7 (
    .a 2 4 <| .p (does_c (way_ok ax ay bx b_y)) <| .a 2 4 <| .p (does_c (way_ok ax ay cx cy)) <| .a 4 4 <| .nil _ _) ?_
  refine aw_p 15 (
    .a 4 6 <| .p (does_i ((Sp.lim 1048576 bx - Sp.lim 1048576 ax) * (Sp.lim 1048576 cy - Sp.lim 1048576 ay)) (wrap_i64 (by omega) (by omega)) .i64) <| .a 4 6 <| .p (does_i ((Sp.lim 1048576 b_y - Sp.lim 1048576 ay) * (Sp.lim 1048576 cx - Sp.lim 1048576 ax)) (wrap_i64 (by omega) (by omega)) .i64) <|
    .p (does_i (((Sp.lim 1048576 bx - Sp.lim 1048576 ax) * (Sp.lim 1048576 cy - Sp.lim 1048576 ay)) - ((Sp.lim 1048576 b_y - Sp.lim 1048576 ay) * (Sp.lim 1048576 cx - Sp.lim 1048576 ax))) (wrap_i64 (by omega) (by omega)) .i64) <| .a 1 6 <| .nil _ _) ?_
  refine aw_w [(6, .int .i64 (((Sp.lim 1048576 bx - Sp.lim 1048576 ax) * (Sp.lim 1048576 cy - Sp.lim 1048576 ay)) - ((Sp.lim 1048576 b_y - Sp.lim 1048576 ay) * (Sp.lim 1048576 cx - Sp.lim 1048576 ax))))] [] ?_
  refine aw_rt ?_
  exact en_ret [.int .i64 (((Sp.lim 1048576 bx - Sp.lim 1048576 ax) * (Sp.lim 1048576 cy - Sp.lim 1048576 ay)) - ((Sp.lim 1048576 b_y - Sp.lim 1048576 ay) * (Sp.lim 1048576 cx - Sp.lim 1048576 ax)))] (show (.int .i64 (((Sp.lim 1048576 bx - Sp.lim 1048576 ax) * (Sp.lim 1048576 cy - Sp.lim 1048576 ay)) - ((Sp.lim 1048576 b_y - Sp.lim 1048576 ay) * (Sp.lim 1048576 cx - Sp.lim 1048576 ax))) : Value) = (.int .i64 (Sp.crs (Sp.lim 1048576 ax) (Sp.lim 1048576 ay) (Sp.lim 1048576 bx) (Sp.lim 1048576 b_y) (Sp.lim 1048576 cx) (Sp.lim 1048576 cy))) from (congrArg (Value.int .i64) (show (((Sp.lim 1048576 bx - Sp.lim 1048576 ax) * (Sp.lim 1048576 cy - Sp.lim 1048576 ay)) - ((Sp.lim 1048576 b_y - Sp.lim 1048576 ay) * (Sp.lim 1048576 cx - Sp.lim 1048576 ax))) = (Sp.crs (Sp.lim 1048576 ax) (Sp.lim 1048576 ay) (Sp.lim 1048576 bx) (Sp.lim 1048576 b_y) (Sp.lim 1048576 cx) (Sp.lim 1048576 cy)) from by rfl)))
theorem dot_ok (ax ay bx b_y cx cy : Int) :
    AC Try.prog 115 0 ([.agg #[.int .i64 ax, .int .i64 ay], .agg #[.int .i64 bx, .int .i64 b_y], .agg #[.int .i64 cx, .int .i64 cy]]) [] (.int .i64 (Sp.dot (Sp.lim 1048576 ax) (Sp.lim 1048576 ay) (Sp.lim 1048576 bx) (Sp.lim 1048576 b_y) (Sp.lim 1048576 cx) (Sp.lim 1048576 cy))) [] := by
  have qax := Sp.lim_bd (m := 1048576) (by decide) ax; have qay := Sp.lim_bd (m := 1048576) (by decide) ay; have qbx := Sp.lim_bd (m := 1048576) (by decide) bx; have qb_y := Sp.lim_bd (m := 1048576) (by decide) b_y; have qcx := Sp.lim_bd (m := 1048576) (by decide) cx; have qcy := Sp.lim_bd (m := 1048576) (by decide) cy; have p0 := Sp.mul_bd (a := Sp.lim 1048576 bx - Sp.lim 1048576 ax) (b := Sp.lim 1048576 cx - Sp.lim 1048576 ax) (A := 2097152) (B := 2097152) (by omega) (by omega) (by omega) (by omega); have p1 := Sp.mul_bd (a := Sp.lim 1048576 b_y - Sp.lim 1048576 ay) (b := Sp.lim 1048576 cy - Sp.lim 1048576 ay) (A := 2097152) (B := 2097152) (by omega) (by omega) (by omega) (by omega)
  refine ac_in Try.func115 (fun w0 W pin => ?_)
  refine aw_p 3 (
    .a 4 1 <| .nil _ _) ?_
  refine aw_d 7 (
    .a 2 4 <| .p (does_c (way_ok ax ay bx b_y)) <| .a 2 4 <| .p (does_c (way_ok ax ay cx cy)) <| .a 4 4 <| .nil _ _) ?_
  refine aw_p 15 (
    .a 4 6 <| .p (does_i ((Sp.lim 1048576 bx - Sp.lim 1048576 ax) * (Sp.lim 1048576 cx - Sp.lim 1048576 ax)) (wrap_i64 (by omega) (by omega)) .i64) <| .a 4 6 <| .p (does_i ((Sp.lim 1048576 b_y - Sp.lim 1048576 ay) * (Sp.lim 1048576 cy - Sp.lim 1048576 ay)) (wrap_i64 (by omega) (by omega)) .i64) <|
    .p (does_i (((Sp.lim 1048576 bx - Sp.lim 1048576 ax) * (Sp.lim 1048576 cx - Sp.lim 1048576 ax)) + ((Sp.lim 1048576 b_y - Sp.lim 1048576 ay) * (Sp.lim 1048576 cy - Sp.lim 1048576 ay))) (wrap_i64 (by omega) (by omega)) .i64) <| .a 1 6 <| .nil _ _) ?_
  refine aw_w [(6, .int .i64 (((Sp.lim 1048576 bx - Sp.lim 1048576 ax) * (Sp.lim 1048576 cx - Sp.lim 1048576 ax)) + ((Sp.lim 1048576 b_y - Sp.lim 1048576 ay) * (Sp.lim 1048576 cy - Sp.lim 1048576 ay))))] [] ?_
  refine aw_rt ?_
  exact en_ret [.int .i64 (((Sp.lim 1048576 bx - Sp.lim 1048576 ax) * (Sp.lim 1048576 cx - Sp.lim 1048576 ax)) + ((Sp.lim 1048576 b_y - Sp.lim 1048576 ay) * (Sp.lim 1048576 cy - Sp.lim 1048576 ay)))] (show (.int .i64 (((Sp.lim 1048576 bx - Sp.lim 1048576 ax) * (Sp.lim 1048576 cx - Sp.lim 1048576 ax)) + ((Sp.lim 1048576 b_y - Sp.lim 1048576 ay) * (Sp.lim 1048576 cy - Sp.lim 1048576 ay))) : Value) = (.int .i64 (Sp.dot (Sp.lim 1048576 ax) (Sp.lim 1048576 ay) (Sp.lim 1048576 bx) (Sp.lim 1048576 b_y) (Sp.lim 1048576 cx) (Sp.lim 1048576 cy))) from (congrArg (Value.int .i64) (show (((Sp.lim 1048576 bx - Sp.lim 1048576 ax) * (Sp.lim 1048576 cx - Sp.lim 1048576 ax)) + ((Sp.lim 1048576 b_y - Sp.lim 1048576 ay) * (Sp.lim 1048576 cy - Sp.lim 1048576 ay))) = (Sp.dot (Sp.lim 1048576 ax) (Sp.lim 1048576 ay) (Sp.lim 1048576 bx) (Sp.lim 1048576 b_y) (Sp.lim 1048576 cx) (Sp.lim 1048576 cy)) from by rfl)))
theorem turn_ok (ax ay bx b_y cx cy : Int) :
    AC Try.prog 35 0 ([.agg #[.int .i64 ax, .int .i64 ay], .agg #[.int .i64 bx, .int .i64 b_y], .agg #[.int .i64 cx, .int .i64 cy]]) [] (.int .i64 (Sp.cmp (Sp.crs (Sp.lim 1048576 ax) (Sp.lim 1048576 ay) (Sp.lim 1048576 bx) (Sp.lim 1048576 b_y) (Sp.lim 1048576 cx) (Sp.lim 1048576 cy)) 0)) [] := by
  refine ac_in Try.func35 (fun w0 W pin => ?_)
  refine aw_p 3 (
    .a 4 1 <| .nil _ _) ?_
  refine aw_p 7 (
    .a 3 4 <| .p (does_c (cross_ok ax ay bx b_y cx cy)) <| .p (does_c (compare_ok (Sp.crs (Sp.lim 1048576 ax) (Sp.lim 1048576 ay) (Sp.lim 1048576 bx) (Sp.lim 1048576 b_y) (Sp.lim 1048576 cx) (Sp.lim 1048576 cy)) 0)) <| .a 1 4 <| .nil _ _) ?_
  refine aw_rt ?_
  exact en_ret [.int .i64 (Sp.cmp (Sp.crs (Sp.lim 1048576 ax) (Sp.lim 1048576 ay) (Sp.lim 1048576 bx) (Sp.lim 1048576 b_y) (Sp.lim 1048576 cx) (Sp.lim 1048576 cy)) 0)] (by kernel_rfl)
theorem sq_ok (ax ay bx b_y : Int) :
    AC Try.prog 77 0 ([.agg #[.int .i64 ax, .int .i64 ay], .agg #[.int .i64 bx, .int .i64 b_y]]) [] (.int .i64 (Sp.dot (Sp.lim 1048576 ax) (Sp.lim 1048576 ay) (Sp.lim 1048576 bx) (Sp.lim 1048576 b_y) (Sp.lim 1048576 bx) (Sp.lim 1048576 b_y))) [] := by
  refine ac_in Try.func77 (fun w0 W pin => ?_)
  refine aw_p 3 (
    .a 3 1 <| .nil _ _) ?_
  refine aw_p 7 (
    .a 3 3 <| .p (does_c (dot_ok ax ay bx b_y bx b_y)) <| .a 1 3 <| .nil _ _) ?_
  refine aw_rt ?_
  exact en_ret [.int .i64 (Sp.dot (Sp.lim 1048576 ax) (Sp.lim 1048576 ay) (Sp.lim 1048576 bx) (Sp.lim 1048576 b_y) (Sp.lim 1048576 bx) (Sp.lim 1048576 b_y))] (by kernel_rfl)
theorem on_ok (ax ay bx b_y px py : Int) :
    AC Try.prog 78 0 ([.agg #[.int .i64 ax, .int .i64 ay], .agg #[.int .i64 bx, .int .i64 b_y], .agg #[.int .i64 px, .int .i64 py]]) [] (.bool (Sp.onb (Sp.lim 1048576 ax) (Sp.lim 1048576 ay) (Sp.lim 1048576 bx) (Sp.lim 1048576 b_y) (Sp.lim 1048576 px) (Sp.lim 1048576 py))) [] := by
  refine ac_in Try.func78 (fun w0 W pin => ?_)
  refine aw_p 3 (
    .a 4 1 <| .nil _ _) ?_
  rcases Bool.eq_false_or_eq_true ((Sp.cmp (Sp.crs (Sp.lim 1048576 ax) (Sp.lim 1048576 ay) (Sp.lim 1048576 bx) (Sp.lim 1048576 b_y) (Sp.lim 1048576 px) (Sp.lim 1048576 py)) 0) == 0) with h1 | h1
  · have h1p : (((Sp.cmp (Sp.crs (Sp.lim 1048576 ax) (Sp.lim 1048576 ay) (Sp.lim 1048576 bx) (Sp.lim 1048576 b_y) (Sp.lim 1048576 px) (Sp.lim 1048576 py)) 0) = 0)) := by first | (simpa using h1) | (have h1q := h1; simp at h1q; omega) | (have h1q := bx1 h1; simp at h1q; omega)
    refine aw_p 7 (
      .a 3 4 <| .p (does_c (turn_ok ax ay bx b_y px py)) <| .p (does_b true (h1)) <| .a 4 4 <| .p (does_c (dot_ok px py ax ay bx b_y)) <| .a 3 4 <| .nil _ _) ?_
    refine aw_rt ?_
    exact en_ret [.bool (decide ((Sp.dot (Sp.lim 1048576 px) (Sp.lim 1048576 py) (Sp.lim 1048576 ax) (Sp.lim 1048576 ay) (Sp.lim 1048576 bx) (Sp.lim 1048576 b_y)) ≤ 0))] (show (.bool (decide ((Sp.dot (Sp.lim 1048576 px) (Sp.lim 1048576 py) (Sp.lim 1048576 ax) (Sp.lim 1048576 ay) (Sp.lim 1048576 bx) (Sp.lim 1048576 b_y)) ≤ 0)) : Value) = (.bool (Sp.onb (Sp.lim 1048576 ax) (Sp.lim 1048576 ay) (Sp.lim 1048576 bx) (Sp.lim 1048576 b_y) (Sp.lim 1048576 px) (Sp.lim 1048576 py))) from (congrArg Value.bool (show (decide ((Sp.dot (Sp.lim 1048576 px) (Sp.lim 1048576 py) (Sp.lim 1048576 ax) (Sp.lim 1048576 ay) (Sp.lim 1048576 bx) (Sp.lim 1048576 b_y)) ≤ 0)) = (Sp.onb (Sp.lim 1048576 ax) (Sp.lim 1048576 ay) (Sp.lim 1048576 bx) (Sp.lim 1048576 b_y) (Sp.lim 1048576 px) (Sp.lim 1048576 py)) from by (simp [Sp.onb, *]))))
  · have h1p : ¬ (((Sp.cmp (Sp.crs (Sp.lim 1048576 ax) (Sp.lim 1048576 ay) (Sp.lim 1048576 bx) (Sp.lim 1048576 b_y) (Sp.lim 1048576 px) (Sp.lim 1048576 py)) 0) = 0)) := by first | (simpa using h1) | (have h1q := h1; simp at h1q; omega) | (have h1q := bx2 h1; simp at h1q; omega)
    refine aw_p 7 (
      .a 3 4 <| .p (does_c (turn_ok ax ay bx b_y px py)) <| .p (does_b false (h1)) <| .a 8 4 <| .nil _ _) ?_
    refine aw_rt ?_
    exact en_ret [.bool false] (show (.bool false : Value) = (.bool (Sp.onb (Sp.lim 1048576 ax) (Sp.lim 1048576 ay) (Sp.lim 1048576 bx) (Sp.lim 1048576 b_y) (Sp.lim 1048576 px) (Sp.lim 1048576 py))) from (congrArg Value.bool (show false = (Sp.onb (Sp.lim 1048576 ax) (Sp.lim 1048576 ay) (Sp.lim 1048576 bx) (Sp.lim 1048576 b_y) (Sp.lim 1048576 px) (Sp.lim 1048576 py)) from by (simp [Sp.onb, *]))))
theorem next_own (xs : List Int) (p : Nat) (n : Int) (hp : p < xs.length) (h0 : 0 < n) (hz : n ≤ 9223372036854775807) :
    AC Try.prog 127 2 ([.pointer (some ⟨0, 0, none⟩), .int .i64 n]) [(0, ⟨[.slice (some ⟨1, p, none⟩) (xs.length - p) 0], 67, true, 1⟩), (1, ⟨(xs.map i64v), 3, true, 1⟩)] (.int .i64 (xs.getD p 0 % n)) [(0, ⟨[.slice (some ⟨1, (p + 1), none⟩) (xs.length - p - 1) 0], 67, true, 1⟩), (1, ⟨(xs.map i64v), 3, true, 1⟩)] := by
  refine ac_in Try.func127 (fun w0 W pin => ?_)
  refine aw_p 3 (
    .a 1 2 <| .nil _ _) ?_
  refine aw_sq 6 7 ?_
  refine aw_p 13 (
    .a 5 2 <| .p (does_b false ((show ((((xs.length - p) : Nat) : Int) == 0) = false from by rw [beq_eq_false_iff_ne]; omega))) <| .a 2 2 <| .p (does_b false ((show (decide (n < 1)) = false from decide_eq_false (by omega)))) <| .a 1 2 <| .nil _ _) ?_
  refine aw_fl 27 ?_
  refine aw_sk ?_
  refine then_normal ?_
  refine aw_p 15 (
    .a 4 2 <| .p (does_indexSlice (t := 22) (x := .tmp 19) (y := .const (.int .i64 0)) (k := 1) (off := p) (n := (xs.length - p)) (c := 0) (z := 1) (kd := .i64) (j := 0) (by kernel_rfl) (by kernel_rfl) (by kernel_rfl) (by kernel_rfl) (by kernel_rfl) (by omega) (by omega)) <|
    .p (does_load (t := 3) (x := .tmp 20) (k := 1) (off := p + 0 * 1) (b := ⟨(xs.map i64v), 3, true, 1⟩) (v := .int .i64 (xs.getD p 0)) (by kernel_rfl) (by kernel_rfl) (by kernel_rfl) (ldV_map (f := i64v) (j := p) 0 (by kernel_rfl) (by kernel_rfl) hp)) <| .a 1 2 <| .nil _ _) ?_
  refine aw_p 31 (
    .a 5 2 <|
    .p (does_val (v' := .slice (some ⟨1, (p + 1), none⟩) ((xs.length - p) - 1) 0) (does_slice (t := 22) (x := .tmp 26) (lo := some (.const (.int .i64 1))) (hi := none) (k := 1) (off := p) (n := (xs.length - p)) (c := 0) (z := 1) (l := 1) (h := (((xs.length - p) : Nat) : Int)) (m := ((xs.length - p) - 1)) (b := ⟨(xs.map i64v), 3, true, 1⟩) (by kernel_rfl) (by kernel_rfl) (by kernel_rfl) (by kernel_rfl) (by kernel_rfl) (by kernel_rfl) (by kernel_rfl) (by kernel_rfl) (by omega) (by omega) (by omega) (by omega)) (by kernel_rfl)) <|
    .a 3 2 <| .nil _ _) ?_
  refine aw_w [(1, .int .i64 n), (4, .int .i64 0), (5, .int .i64 (xs.getD p 0))] [(0, ⟨[.slice (some ⟨1, (p + 1), none⟩) ((xs.length - p) - 1) 0], 67, true, 1⟩), (1, ⟨(xs.map i64v), 3, true, 1⟩)] ?_ (hc := (by simp [closedB, valsB, valB, flats_map, List.all_eq_true, i64v, flat1]; try decide))
  refine aw_p 63 (
    .a 2 2 <| .p (does_c (below_ok (xs.getD p 0) n (by omega) (by omega))) <| .a 1 2 <| .nil _ _) ?_
  refine aw_rt ?_
  exact en_ret [.int .i64 ((xs.getD p 0) % n)] (show (.int .i64 ((xs.getD p 0) % n) : Value) = (.int .i64 (xs.getD p 0 % n)) from (congrArg (Value.int .i64) (show ((xs.getD p 0) % n) = (xs.getD p 0 % n) from by rfl)))
theorem next0_own (xs : List Int) (p : Nat) (n : Int) (hp : ¬ p < xs.length) :
    AC Try.prog 127 2 ([.pointer (some ⟨0, 0, none⟩), .int .i64 n]) [(0, ⟨[.slice (some ⟨1, p, none⟩) (xs.length - p) 0], 67, true, 1⟩), (1, ⟨(xs.map i64v), 3, true, 1⟩)] (.int .i64 0) [(0, ⟨[.slice (some ⟨1, p, none⟩) (xs.length - p) 0], 67, true, 1⟩), (1, ⟨(xs.map i64v), 3, true, 1⟩)] := by
  refine ac_in Try.func127 (fun w0 W pin => ?_)
  refine aw_p 3 (
    .a 1 2 <| .nil _ _) ?_
  refine aw_sq 6 7 ?_
  refine aw_p 13 (
    .a 5 2 <| .p (does_b true ((show ((((xs.length - p) : Nat) : Int) == 0) = true from by rw [beq_iff_eq]; omega))) <| .a 4 2 <| .nil _ _) ?_
  refine aw_tr 26 ?_
  refine aw_p 53 (
    .a 1 2 <| .nil _ _) ?_
  refine aw_rt ?_
  refine then_ret ?_
  exact en_ret [.int .i64 0] (by kernel_rfl)
theorem next_ro (xs : List Int) (p : Nat) (n : Int) (hp : p < xs.length) (h0 : 0 < n) (hz : n ≤ 9223372036854775807) :
    AC Try.prog 127 2 ([.pointer (some ⟨0, 0, none⟩), .int .i64 n]) [(0, ⟨[.slice (some ⟨1, p, none⟩) (xs.length - p) 0], 67, true, 1⟩), (1, ⟨(xs.map i64v), 3, false, 1⟩)] (.int .i64 (xs.getD p 0 % n)) [(0, ⟨[.slice (some ⟨1, (p + 1), none⟩) (xs.length - p - 1) 0], 67, true, 1⟩)] := by
  refine ac_in Try.func127 (fun w0 W pin => ?_)
  refine aw_p 3 (
    .a 1 2 <| .nil _ _) ?_
  refine aw_sq 6 7 ?_
  refine aw_p 13 (
    .a 5 2 <| .p (does_b false ((show ((((xs.length - p) : Nat) : Int) == 0) = false from by rw [beq_eq_false_iff_ne]; omega))) <| .a 2 2 <| .p (does_b false ((show (decide (n < 1)) = false from decide_eq_false (by omega)))) <| .a 1 2 <| .nil _ _) ?_
  refine aw_fl 27 ?_
  refine aw_sk ?_
  refine then_normal ?_
  refine aw_p 15 (
    .a 4 2 <| .p (does_indexSlice (t := 22) (x := .tmp 19) (y := .const (.int .i64 0)) (k := 1) (off := p) (n := (xs.length - p)) (c := 0) (z := 1) (kd := .i64) (j := 0) (by kernel_rfl) (by kernel_rfl) (by kernel_rfl) (by kernel_rfl) (by kernel_rfl) (by omega) (by omega)) <|
    .p (does_load (t := 3) (x := .tmp 20) (k := 1) (off := p + 0 * 1) (b := ⟨(xs.map i64v), 3, false, 1⟩) (v := .int .i64 (xs.getD p 0)) (by kernel_rfl) (by kernel_rfl) (by kernel_rfl) (ldV_map (f := i64v) (j := p) 0 (by kernel_rfl) (by kernel_rfl) hp)) <| .a 1 2 <| .nil _ _) ?_
  refine aw_p 31 (
    .a 5 2 <|
    .p (does_val (v' := .slice (some ⟨1, (p + 1), none⟩) ((xs.length - p) - 1) 0) (does_slice (t := 22) (x := .tmp 26) (lo := some (.const (.int .i64 1))) (hi := none) (k := 1) (off := p) (n := (xs.length - p)) (c := 0) (z := 1) (l := 1) (h := (((xs.length - p) : Nat) : Int)) (m := ((xs.length - p) - 1)) (b := ⟨(xs.map i64v), 3, false, 1⟩) (by kernel_rfl) (by kernel_rfl) (by kernel_rfl) (by kernel_rfl) (by kernel_rfl) (by kernel_rfl) (by kernel_rfl) (by kernel_rfl) (by omega) (by omega) (by omega) (by omega)) (by kernel_rfl)) <|
    .a 3 2 <| .nil _ _) ?_
  refine aw_w [(1, .int .i64 n), (4, .int .i64 0), (5, .int .i64 (xs.getD p 0))] [(0, ⟨[.slice (some ⟨1, (p + 1), none⟩) ((xs.length - p) - 1) 0], 67, true, 1⟩), (1, ⟨(xs.map i64v), 3, false, 1⟩)] ?_ (hc := (by simp [closedB, valsB, valB, flats_map, List.all_eq_true, i64v, flat1]; try decide))
  refine aw_p 63 (
    .a 2 2 <| .p (does_c (below_ok (xs.getD p 0) n (by omega) (by omega))) <| .a 1 2 <| .nil _ _) ?_
  refine aw_rt ?_
  exact en_ret [.int .i64 ((xs.getD p 0) % n)] (show (.int .i64 ((xs.getD p 0) % n) : Value) = (.int .i64 (xs.getD p 0 % n)) from (congrArg (Value.int .i64) (show ((xs.getD p 0) % n) = (xs.getD p 0 % n) from by rfl)))
theorem next0_ro (xs : List Int) (p : Nat) (n : Int) (hp : ¬ p < xs.length) :
    AC Try.prog 127 2 ([.pointer (some ⟨0, 0, none⟩), .int .i64 n]) [(0, ⟨[.slice (some ⟨1, p, none⟩) (xs.length - p) 0], 67, true, 1⟩), (1, ⟨(xs.map i64v), 3, false, 1⟩)] (.int .i64 0) [(0, ⟨[.slice (some ⟨1, p, none⟩) (xs.length - p) 0], 67, true, 1⟩)] := by
  refine ac_in Try.func127 (fun w0 W pin => ?_)
  refine aw_p 3 (
    .a 1 2 <| .nil _ _) ?_
  refine aw_sq 6 7 ?_
  refine aw_p 13 (
    .a 5 2 <| .p (does_b true ((show ((((xs.length - p) : Nat) : Int) == 0) = true from by rw [beq_iff_eq]; omega))) <| .a 4 2 <| .nil _ _) ?_
  refine aw_tr 26 ?_
  refine aw_p 53 (
    .a 1 2 <| .nil _ _) ?_
  refine aw_rt ?_
  refine then_ret ?_
  exact en_ret [.int .i64 0] (by kernel_rfl)
theorem turn_in (ax ay bx b_y cx cy : Int) (axl : -1048576 ≤ ax) (axu : ax ≤ 1048576) (ayl : -1048576 ≤ ay) (ayu : ay ≤ 1048576) (bxl : -1048576 ≤ bx) (bxu : bx ≤ 1048576) (b_yl : -1048576 ≤ b_y) (b_yu : b_y ≤ 1048576) (cxl : -1048576 ≤ cx) (cxu : cx ≤ 1048576) (cyl : -1048576 ≤ cy) (cyu : cy ≤ 1048576) : AC Try.prog 35 0 [.agg #[.int .i64 ax, .int .i64 ay], .agg #[.int .i64 bx, .int .i64 b_y], .agg #[.int .i64 cx, .int .i64 cy]] [] (.int .i64 (Sp.cmp (Sp.crs ax ay bx b_y cx cy) 0)) [] := by
  have h := turn_ok ax ay bx b_y cx cy
  simp only [Sp.lim_id axl axu, Sp.lim_id ayl ayu, Sp.lim_id bxl bxu, Sp.lim_id b_yl b_yu, Sp.lim_id cxl cxu, Sp.lim_id cyl cyu] at h
  exact h
theorem on_in (ax ay bx b_y cx cy : Int) (axl : -1048576 ≤ ax) (axu : ax ≤ 1048576) (ayl : -1048576 ≤ ay) (ayu : ay ≤ 1048576) (bxl : -1048576 ≤ bx) (bxu : bx ≤ 1048576) (b_yl : -1048576 ≤ b_y) (b_yu : b_y ≤ 1048576) (cxl : -1048576 ≤ cx) (cxu : cx ≤ 1048576) (cyl : -1048576 ≤ cy) (cyu : cy ≤ 1048576) : AC Try.prog 78 0 [.agg #[.int .i64 ax, .int .i64 ay], .agg #[.int .i64 bx, .int .i64 b_y], .agg #[.int .i64 cx, .int .i64 cy]] [] (.bool (Sp.onb ax ay bx b_y cx cy)) [] := by
  have h := on_ok ax ay bx b_y cx cy
  simp only [Sp.lim_id axl axu, Sp.lim_id ayl ayu, Sp.lim_id bxl bxu, Sp.lim_id b_yl b_yu, Sp.lim_id cxl cxu, Sp.lim_id cyl cyu] at h
  exact h
end Go.Proofs.Ytadifmimefmcnaa.Am

namespace Go.Proofs.Ytadifmimefmcnaa.Am
open Go Go.Proofs
set_option maxRecDepth 100000
set_option maxHeartbeats 4000000
set_option linter.unusedVariables false
set_option linter.unusedSimpArgs false
theorem nextz (xs : List Int) (p : Nat) (n : Int) (h0 : 0 < n) (hz : n ≤ 9223372036854775807) : AC Try.prog 127 2 [.pointer (some ⟨0, 0, none⟩), .int .i64 n] [(0, ⟨[.slice (some ⟨1, (min p xs.length), none⟩) (xs.length - p) 0], 67, true, 1⟩), (1, ⟨(xs.map i64v), 3, false, 1⟩)] (.int .i64 (xs.getD p 0 % n)) [(0, ⟨[.slice (some ⟨1, (min (p + 1) xs.length), none⟩) (xs.length - (p + 1)) 0], 67, true, 1⟩)] := by
  by_cases hp : p < xs.length
  · have h := next_ro xs p n hp h0 hz
    rw [show min p xs.length = p by omega, show min (p + 1) xs.length = p + 1 by omega, Nat.sub_add_eq]
    exact h
  · have h := next0_ro xs (min p xs.length) n (by omega)
    rw [show xs.length - min p xs.length = 0 by omega] at h
    rw [show min (p + 1) xs.length = min p xs.length by omega, show xs.length - p = 0 by omega, show xs.length - (p + 1) = 0 by omega, show xs.getD p 0 = 0 by simp [List.getD, List.getElem?_eq_none (Nat.le_of_not_lt hp)], Int.zero_emod]
    exact h
end Go.Proofs.Ytadifmimefmcnaa.Am
