import Derived.Test.YtadifmimefmcnaaM3
import Derived.Test.YtadifmimefmcnaaProg
import Derived.Test.YtadifmimefmcnaaM2
import Derived.Test.YtadifmimefmcnaaM0
set_option maxHeartbeats 4000000
set_option linter.unusedVariables false
set_option linter.unusedSimpArgs false
namespace Go.Proofs.Ytadifmimefmcnaa.Am
open Go
section
variable {C : Ctx} {P : Program} {ops : Array Oper} {i : Nat} {S : St}
/-- A call that only reads the blocks handed over (of some of them it asks nothing but that they are there), and returns new ones. -/
theorem mB {x : Operand} {ars : Array Operand} {ats : Array TypeId} {g m r : Nat} {firsts caps : Array Value} {vs args0 : List Value} {pre0 post0 post : List (Nat × Blk)} {v0 v : Value} (σ : Nat → Nat) (reads : List Nat)
    (hs : qZ ops S i = some (.call ⟨.value x, ars, ats⟩, true)) (hf : ev S x = some (.func (.func g) firsts caps)) (hargs : evs S ars.toList = some vs) (hg : wJ P g = true)
    (ac : AC P g m args0 pre0 v0 post0) (ha : RenL σ (· < m) args0 (firsts.toList ++ vs ++ caps.toList)) (hro : ∀ k b, (k, b) ∈ pre0 → k < m ∧ b.own = false) (hlow : ∀ j, j < m → ∃ b, (j, b) ∈ pre0)
    (hH : ∀ j b0, (j, b0) ∈ pre0 → σ j ∈ reads ∧ ∃ b, S.H (σ j) = .live b ∧ b.step = b0.step ∧ (b0.cells = [] ∨ RenL σ (· < m) b0.cells b.cells))
    (hpo : ∀ k b, (k, b) ∈ post0 → m ≤ k ∧ k < m + r) (hkeys : ∀ k, m ≤ k → k < m + r → k ∈ post0.map (·.1)) (hinj : ∀ p q, m ≤ p → p < m + r → m ≤ q → q < m + r → σ p = σ q → p = q) (hnew : ∀ j, m ≤ j → j < m + r → S.H (σ j) = .fresh)
    (hpost : RenH σ (· < m + r) post0 post) (hv : RenV σ (· < m + r) v0 v) :
    Does C P ops i S ⟨reads ++ (List.range' m r).map σ, v, jA [] post⟩ := by
  intro o ho hd S' ρ a w K Q hT hH' hr hK
  obtain ⟨hop, hg0⟩ := y6 hs ho
  have hg' : guardOf ops S' o = some true := by rw [yD hT]; exact hg0
  have hw := vW hr hg'
  have hevx : ev S' x = some (.func (.func g) firsts caps) := by rw [x8 hT (by rw [hop]; simp [Op.operands, Call.operands])]; exact hf
  have hevs : evs S' ars.toList = some vs := by rw [wD (fun y hy => x8 hT (by rw [hop]; simp [Op.operands, Call.operands]; exact .inr (by simpa using hy)))]; exact hargs
  have hHS : ∀ j b0, (j, b0) ∈ pre0 → ∃ b, S'.H (σ j) = .live b ∧ b.step = b0.step ∧ (b0.cells = [] ∨ RenL σ (· < m) b0.cells b.cells) := fun j b0 hj => by
    obtain ⟨h1, b, h2, h3⟩ := hH j b0 hj
    exact ⟨b, by rw [hH' _ (List.mem_append_left _ h1)]; exact h2, h3⟩
  have hnew' : ∀ j, m ≤ j → j < m + r → S'.H (σ j) = .fresh := fun j h1 h2 => by
    rw [hH' (σ j) (List.mem_append_right _ (List.mem_map.2 ⟨j, by rw [List.mem_range'_1]; omega, rfl⟩))]; exact hnew j h1 h2
  have hfx := jM hr hevx
  obtain ⟨ea1, ea2⟩ := wT hr hevs
  generalize hax : a.eval x = ax at hfx
  cases hfx with
  | func _ _ ys _ ds e1 v1 e2 v2 =>
    unfold wpOp
    simp only [ho, hw, if_true]
    refine .inl ?_
    unfold Oper.wp
    have hex : (execOp a.eval o).run P w = .ok (.enter g ((ys ++ (ars.map a.eval)) ++ ds)) w := by
      unfold wJ at hg
      split at hg
      · rename_i fn hfn
        rw [Bool.and_eq_true] at hg
        have n1 : (fn.name == "runtime.NumGoroutine") = false := by simpa using hg.1
        have n2 : fn.body.isNone = false := by cases hb : fn.body with | none => rw [hb] at hg; simp at hg | some _ => rfl
        simp only [execOp, hop, resolve, hax, Deferred.ofValue, Sem.run_bind, Sem.run_pure, Result.andThen_ok, invoke, callFunc, run_program, hfn, n1, n2, Bool.false_eq_true, if_false]
      · cases hg
    rw [hex]
    simp only [Oper.upon]
    let ρ0 : Ren := fun j => bif Nat.blt j m then ρ (σ j) else none
    have hρ0 : ∀ j, j < m → ρ0 j = ρ (σ j) := fun j hj => by simp only [ρ0, show Nat.blt j m = true from Nat.ble_eq_true_of_le hj, cond_true]
    have hall : (firsts.toList ++ vs ++ caps.toList).length = ((ys ++ ars.map a.eval) ++ ds).size ∧ ∀ (j : Nat) (u : Value), (firsts.toList ++ vs ++ caps.toList)[j]? = some u → ∃ z, ((ys ++ ars.map a.eval) ++ ds)[j]? = some z ∧ VRel ρ u z := by
      have pw : ∀ (xs zs : Array Value) (e : xs.size = zs.size) (_ : ∀ i (hi : i < xs.size), VRel ρ xs[i] (zs[i]'(e ▸ hi))), ∀ (j : Nat) (u : Value), xs.toList[j]? = some u → ∃ z, zs.toList[j]? = some z ∧ VRel ρ u z := by
        intro xs zs e hv j u hu
        simp only [Array.getElem?_toList] at hu ⊢
        obtain ⟨hj, he⟩ := Array.getElem?_eq_some_iff.1 hu
        exact ⟨zs[j]'(e ▸ hj), Array.getElem?_eq_getElem (e ▸ hj), by rw [← he]; exact hv j hj⟩
      have app : ∀ (l1 l2 m1 m2 : List Value), l1.length = m1.length → (∀ (j : Nat) (u : Value), l1[j]? = some u → ∃ z, m1[j]? = some z ∧ VRel ρ u z) →
          (∀ (j : Nat) (u : Value), l2[j]? = some u → ∃ z, m2[j]? = some z ∧ VRel ρ u z) → ∀ (j : Nat) (u : Value), (l1 ++ l2)[j]? = some u → ∃ z, (m1 ++ m2)[j]? = some z ∧ VRel ρ u z := by
        intro l1 l2 m1 m2 hl h1 h2 j u hu
        rcases Nat.lt_or_ge j l1.length with hlt | hge
        · rw [List.getElem?_append_left hlt] at hu
          rw [List.getElem?_append_left (by omega)]; exact h1 j u hu
        · rw [List.getElem?_append_right hge] at hu
          rw [List.getElem?_append_right (by omega), ← hl]; exact h2 _ u hu
      have ea2' : ∀ (j : Nat) (u : Value), vs[j]? = some u → ∃ z, (ars.map a.eval).toList[j]? = some z ∧ VRel ρ u z := fun j u hu => by simpa using ea2 j u hu
      refine ⟨by simp at ea1 ⊢; omega, fun j u hu => ?_⟩
      have := app (firsts.toList ++ vs) caps.toList ((ys ++ ars.map a.eval).toList) ds.toList (by simp at ea1 ⊢; omega)
        (by rw [Array.toList_append]; exact app firsts.toList vs ys.toList (ars.map a.eval).toList (by simpa using e1) (pw firsts ys e1 v1) ea2') (pw caps ds e2 v2) j u hu
      rw [← Array.getElem?_toList, Array.toList_append]; exact this
    have hno : ∀ b, ¬ jX ρ0 pre0 b := by
      rintro b ⟨k, b0, sp, hm, ho', _⟩
      rw [(hro k b0 hm).2] at ho'; cases ho'
    have hcall := ac ρ0 w ((ys ++ ars.map a.eval) ++ ds) (by rw [ha.1]; exact hall.1) (fun j u hu => by
        obtain ⟨hj, _⟩ := List.getElem?_eq_some_iff.1 hu
        have hj' : j < (firsts.toList ++ vs ++ caps.toList).length := by have := ha.1; omega
        obtain ⟨z, h1, h2⟩ := hall.2 j _ (List.getElem?_eq_getElem hj')
        exact ⟨z, h1, (ha.2 j u _ hu (List.getElem?_eq_getElem hj')).into (fun q hq => hρ0 q hq) h2⟩)
      ⟨fun j b0 hj => by
          obtain ⟨b, hm, hst, hb⟩ := hHS j b0 hj
          obtain ⟨sp, h1, h2⟩ := hr.heap.live (σ j) b hm
          refine ⟨sp, by rw [hρ0 j (hro j b0 hj).1]; exact h1, ?_⟩
          have h3 : jC ρ w sp ⟨b.cells, b0.elem, false, b.step⟩ := by
            have := h2.lend
            rw [jC.ro (by simp)] at this ⊢
            exact this
          rcases hb with he | hb
          · rw [jC.ro (by rw [(hro j b0 hj).2]; decide)]
            rw [jC.ro (by simp)] at h3
            exact ⟨h3.1.trans hst, .inl he, fun i u hu => by rw [he] at hu; simp at hu⟩
          · exact RenB.into (b0 := b0) (b := ⟨b.cells, b0.elem, false, b.step⟩) (fun q hq => hρ0 q hq) ⟨rfl, (hro j b0 hj).2.symm, hst, hb⟩ h3,
        fun j j' b0 b0' sp sp' hne hj hj' ho' _ _ _ => by rw [(hro j b0 hj).2] at ho'; cases ho'⟩
      (fun j hj => by
        obtain ⟨b0, hb0⟩ := hlow j hj
        obtain ⟨b, hm, _⟩ := hHS j b0 hb0
        obtain ⟨sp, h1, _⟩ := hr.heap.live (σ j) b hm
        exact ⟨sp, by rw [hρ0 _ hj]; exact h1⟩)
      (fun j hj => by simp only [ρ0, show Nat.blt j m = false from by cases hb : Nat.blt j m with | false => rfl | true => have := gB hb; omega, cond_false])
    refine Calls.mono hcall ?_
    rintro e w' ⟨v', ρ1, rfl, hv', hsame, hpost', hnb, hfr⟩
    let inv : Nat → Option Nat := fun k => (List.range' m r).find? (fun j => Nat.beq k (σ j))
    let ρ2 : Ren := fun k => match inv k with
      | some j => ρ1 j
      | none => ρ k
    have hinv : ∀ k j, inv k = some j → k = σ j ∧ m ≤ j ∧ j < m + r := fun k j h => by
      have h1 := List.find?_some h
      have h2 := List.mem_of_find?_eq_some h
      rw [List.mem_range'_1] at h2
      exact ⟨Nat.eq_of_beq_eq_true h1, h2.1, h2.2⟩
    have hinv2 : ∀ j, m ≤ j → j < m + r → inv (σ j) = some j := fun j h1 h2 => by
      cases hf : inv (σ j) with
      | none =>
        have := List.find?_eq_none.1 hf j (by rw [List.mem_range'_1]; omega)
        simp at this
      | some j' =>
        obtain ⟨e1, e2, e3⟩ := hinv _ _ hf
        rw [hinj j j' h1 h2 e2 e3 e1]
    have hsame2 : ∀ k, k ∉ (List.range' m r).map σ → ρ2 k = ρ k := fun k hk => by
      have : inv k = none := List.find?_eq_none.2 (fun j hj hb => hk (List.mem_map.2 ⟨j, hj, (Nat.eq_of_beq_eq_true hb).symm⟩))
      simp only [ρ2, this]
    have hlow2 : ∀ j, j < m → ρ2 (σ j) = ρ (σ j) := fun j hj => hsame2 _ (fun hm => by
      obtain ⟨j', h1, h2⟩ := List.mem_map.1 hm
      rw [List.mem_range'_1] at h1
      obtain ⟨b0, hb0⟩ := hlow j hj
      obtain ⟨b, hb, _⟩ := hHS j b0 hb0
      rw [← h2, hnew' j' (by omega) (by omega)] at hb; cases hb)
    have hρ1 : ∀ j, j < m + r → ρ1 j = ρ2 (σ j) := fun j hj => by
      rcases Nat.lt_or_ge j m with hlt | hge
      · rw [hsame j hlt, hρ0 j hlt, hlow2 j hlt]
      · simp only [ρ2, hinv2 j hge hj]
    have hkeyPost : ∀ k, k ∈ post.map (·.1) → ∃ j, k = σ j ∧ m ≤ j ∧ j < m + r := fun k hk => by
      obtain ⟨x1, hx1, rfl⟩ := List.mem_map.1 hk
      obtain ⟨j, b0, h1, h2, _⟩ := hpost.right (k := x1.1) (b := x1.2) hx1
      exact ⟨j, h1, hpo j b0 h2⟩
    have hOwn : ∀ b, ¬ jX ρ [] b := by
      rintro b ⟨j, b0, sp, hm, _⟩
      exact List.not_mem_nil hm
    obtain ⟨_, hrel⟩ := Rel.call (ρ' := ρ2) (w' := w') hr (pre := []) (post := post) (new := (List.range' m r).map σ) trivial
      (fun k hk => by
        obtain ⟨j, h1, rfl⟩ := List.mem_map.1 hk
        rw [List.mem_range'_1] at h1
        refine ⟨hnew' j h1.1 (by omega), ?_⟩
        obtain ⟨x0, hx0, he⟩ := List.mem_map.1 (hkeys j h1.1 (by omega))
        obtain ⟨b, hm, _⟩ := hpost.left (j := x0.1) (b0 := x0.2) hx0
        rw [← he]
        exact List.mem_map.2 ⟨_, hm, rfl⟩)
      (fun k hk => by
        obtain ⟨j, rfl, h1, h2⟩ := hkeyPost k hk
        exact .inl (List.mem_map.2 ⟨j, by rw [List.mem_range'_1]; omega, rfl⟩))
      hsame2
      ⟨fun k b hk => by
          obtain ⟨j, b0, rfl, hm, hb⟩ := hpost.right hk
          obtain ⟨sp, h1, h2⟩ := hpost'.live j b0 hm
          have hj := (hpo j b0 hm).2
          exact ⟨sp, by rw [← hρ1 j hj]; exact h1, hb.out (fun q hq => hρ1 q hq) h2⟩,
        fun k k' b b' sp sp' hne hk hk' ho' nv h1 h2 => by
          obtain ⟨j, b0, rfl, hm, hb⟩ := hpost.right hk
          obtain ⟨j', b0', rfl, hm', hb'⟩ := hpost.right hk'
          rw [← hρ1 j (hpo j b0 hm).2] at h1
          rw [← hρ1 j' (hpo j' b0' hm').2] at h2
          exact hpost'.apart j j' b0 b0' sp sp' (fun e => hne (by rw [e])) hm hm' (by rw [← hb.own]; exact ho') (fun v => nv (hb'.void.1 v)) h1 h2⟩
      (fun k sp hk hsp => by
        obtain ⟨j, h1, rfl⟩ := List.mem_map.1 hk
        rw [List.mem_range'_1] at h1
        obtain ⟨x0, hx0, he⟩ := List.mem_map.1 (hkeys j h1.1 (by omega))
        subst he
        rw [← hρ1 x0.1 (by omega)] at hsp
        exact (hnb x0.1 x0.2 sp h1.1 hx0 hsp).imp id (fun h => absurd h (hno _)))
      ⟨hfr.os, hfr.tape, hfr.output, hfr.size, fun b hb hW => hfr.block b hb (hno b)⟩
    exact hK ρ2 _ _ (Rel.put hrel hd (hv.out (fun q hq => hρ1 q hq) hv'))
end
/-- the first block of a function is a part of a longer row that is only read -/
theorem AC.shift {P : Program} {f : FuncId} {xs : List Value} {e : TypeId} {p n : Nat} {v : Value} {post : List (Nat × Blk)} (hn : p + n ≤ xs.length) (h1 : 1 ≤ n) (hfl : xs.all flatB = true) (h : AC P f 1 [.slice (some ⟨0, 0, none⟩) n 0] [(0, ⟨(xs.drop p).take n, e, false, 1⟩)] v post)
    (hv : Only (fun k => 1 ≤ k) v) (hp : ∀ k b, (k, b) ∈ post → 1 ≤ k ∧ ∀ u, u ∈ b.cells → Only (fun k => 1 ≤ k) u) : AC P f 1 [.slice (some ⟨0, p, none⟩) n 0] [(0, ⟨xs, e, false, 1⟩)] v post := by
  intro ρ w args' hl ha hpre hlow hhigh
  obtain ⟨a0, e0, r0⟩ := ha 0 _ rfl
  obtain ⟨n', hn'⟩ : ∃ n', n' = n := ⟨n, rfl⟩
  rw [← hn'] at r0
  cases r0 with
  | slice0 => omega
  | slice _ _ _ _ cap sp hk hc hs =>
    subst hn'
    obtain ⟨sp', e1, bok⟩ := hpre.live 0 _ List.mem_cons_self
    rw [hk] at e1; cases e1
    have bok' := bok
    rw [jC.ro (by simp)] at bok'
    obtain ⟨hst, hlt, hcc⟩ := bok'
    have hst : sp.step = 1 := hst
    rw [hst] at hs
    let ρ0 : Ren := upd ρ 0 (some ⟨sp.block, sp.off + p, sp.size - p, 1⟩)
    have hno0 : ∀ b, ¬ jX ρ0 [(0, (⟨(xs.drop p).take n', e, false, 1⟩ : Blk))] b := by
      rintro b ⟨k, b, sp, hm, ho, _⟩
      simp only [List.mem_cons, List.not_mem_nil, or_false, Prod.mk.injEq] at hm
      rw [hm.2] at ho; cases ho
    have hbk : jC ρ0 w ⟨sp.block, sp.off + p, sp.size - p, 1⟩ ⟨(xs.drop p).take n', e, false, 1⟩ := by
      rw [jC.ro (by simp)]
      refine ⟨rfl, hlt.elim (fun h => ?_) .inr, fun i u hu => ?_⟩
      · have : xs = [] := h
        rw [this] at hn
        simp at hn; omega
      · have hu : ((xs.drop p).take n')[i]? = some u := hu
        rw [List.getElem?_take] at hu
        split at hu
        · rw [List.getElem?_drop] at hu
          obtain ⟨v, q1, q2⟩ := hcc (p + i) u hu
          have ou := qT (p := fun _ => False) (List.all_eq_true.1 hfl u (List.mem_of_getElem? hu))
          refine ⟨v, by show w.cell? ⟨sp.block, sp.off + p + i, none⟩ = _; rw [Nat.add_assoc]; exact q1, ?_⟩
          rw [q2.eq_of_only ou]; exact .of_only ou
        · cases hu
    have hargs : args' = #[.slice (some ⟨sp.block, sp.off + p, none⟩) n' cap] := by
      apply Array.ext'
      apply List.ext_getElem?
      intro q
      match q with
      | 0 => simpa using e0
      | q + 1 => rw [List.getElem?_eq_none_iff.2 (by simp at hl ⊢; omega)]; simp
    subst hargs
    have hhi : ∀ k, 1 ≤ k → ρ0 k = none := fun k hk => by
      show upd ρ 0 _ k = none
      rw [j3 _ _ (by omega)]; exact hhigh k hk
    refine (h ρ0 w #[.slice (some ⟨sp.block, sp.off + p, none⟩) n' cap] rfl (fun j u hu => ?_) ⟨fun k b hk => ?_, fun k k' b b' sp1 sp2 hne hk hk' ho => ?_⟩ (fun k hk => ?_) hhi).mono ?_
    · match j with
      | 0 =>
        simp only [List.getElem?_cons_zero, Option.some.injEq] at hu
        subst hu
        refine ⟨_, rfl, ?_⟩
        have := VRel.slice (ρ := ρ0) 0 0 n' 0 cap ⟨sp.block, sp.off + p, sp.size - p, 1⟩ (jE _ _ _) hc (by show 0 + cap * 1 ≤ sp.size - p; omega)
        exact this
      | j + 1 => simp at hu
    · simp only [List.mem_cons, List.not_mem_nil, or_false, Prod.mk.injEq] at hk
      obtain ⟨rfl, rfl⟩ := hk
      exact ⟨_, jE _ _ _, hbk⟩
    · simp only [List.mem_cons, List.not_mem_nil, or_false, Prod.mk.injEq] at hk hk'
      exact absurd (hk.1.trans hk'.1.symm) hne
    · have : k = 0 := by omega
      subst this; exact ⟨_, jE _ _ _⟩
    · rintro e' w' ⟨v', ρ', rfl, hv', hsame, hpost, hnew, hfr⟩
      let ρ2 : Ren := upd ρ' 0 (ρ 0)
      have h2 : ∀ k, 1 ≤ k → ρ' k = ρ2 k := fun k hk => by show _ = upd ρ' 0 _ k; rw [j3 _ _ (by omega)]
      refine ⟨v', ρ2, rfl, hv'.congr hv h2, fun k hk => ?_, ⟨fun k b hk => ?_, fun k k' b b' sp1 sp2 hne hk hk' ho nv e1 e2 => ?_⟩, fun k b sp1 hm hk hsp => ?_, ⟨hfr.os, hfr.tape, hfr.output, hfr.size, fun b hb _ => hfr.block b hb (hno0 b)⟩⟩
      · have : k = 0 := by omega
        subst this; exact jE _ _ _
      · obtain ⟨hk1, hc1⟩ := hp k b hk
        obtain ⟨sp1, q1, q2⟩ := hpost.live k b hk
        exact ⟨sp1, (h2 k hk1).symm.trans q1, q2.congr hc1 h2⟩
      · rw [← h2 k (hp k b hk).1] at e1
        rw [← h2 k' (hp k' b' hk').1] at e2
        exact hpost.apart k k' b b' sp1 sp2 hne hk hk' ho nv e1 e2
      · rw [← h2 k hm] at hsp
        exact (hnew k b sp1 hm hk hsp).imp id (fun h => absurd h (hno0 _))
def famO (TP : TypeId) (Y : List Row) : Nat → Cell := fun k => ownB TP Y (k - 200)
theorem uC (TP : TypeId) (Y : List Row) : u5 (famO TP Y) := fun k b h v hv => gU TP Y (k - 200) b h v hv
theorem qB7 {nm : Nat → Nat} {Y : List Row} {r : Row} {q : Nat} : hds nm Y ++ [.slice (some ⟨q, 0, none⟩) r.length 0] = hds (fun j => if j = Y.length then q else nm j) (Y ++ [r]) := by
  unfold hds
  rw [List.length_append, List.length_cons, List.length_nil, List.range_succ, List.map_append]
  congr 1
  · apply List.map_congr_left
    intro j hj
    have hj := List.mem_range.1 hj
    unfold hdv
    dsimp only
    rw [if_neg (by omega), show (Y ++ [r]).getD j [] = Y.getD j [] by rw [List.getD_eq_getElem?_getD, List.getElem?_append_left hj]; rfl]
  · simp only [List.map_cons, List.map_nil]
    unfold hdv
    dsimp only
    rw [if_pos rfl, show (Y ++ [r]).getD Y.length [] = r by rw [List.getD_eq_getElem?_getD, List.getElem?_append_right (Nat.le_refl _), Nat.sub_self]; rfl]
theorem app_getD {Y : List Row} {r : Row} {j : Nat} : (Y ++ [r]).getD j [] = if j = Y.length then r else Y.getD j [] := by
  rw [List.getD_eq_getElem?_getD]
  rcases Nat.lt_trichotomy j Y.length with h | h | h
  · rw [if_neg (by omega), List.getElem?_append_left h]; rfl
  · rw [if_pos h, h, List.getElem?_append_right (Nat.le_refl _), Nat.sub_self]; rfl
  · rw [if_neg (by omega), List.getElem?_append_right (by omega), List.getElem?_eq_none_iff.2 (by simp; omega), List.getD_eq_getElem?_getD, List.getElem?_eq_none_iff.2 (by omega)]
section
variable {C : Ctx} {S : St} {T : List (Nat × Value)} {TH TP : TypeId}
/-- one more row; the slice gets the number K -/
theorem qBB {K K0 q t n : Nat} {Y : List Row} {r : Row} {b0 : Blk} (hm : C.m = 1) (hK : 1 ≤ K ∧ K < 200) (hK0 : 1 ≤ K0 ∧ K0 < 200) (hq : 1 ≤ q ∧ q < 200 ∧ q ≠ K0) (ht : S.T t = some (.slice (some ⟨K0, 0, none⟩) n 0)) (hT : T.map (fun x => S.T x.1) = T.map (fun x => some x.2)) (cT : xX 1 [] T = true)
    (h0 : S.H 0 = .live b0) (h0o : b0.own = false) (h0f : b0.cells.all flatB = true) (hKc : S.H K0 = .live ⟨hds (· + 200) Y ++ [.slice (some ⟨q, 0, none⟩) r.length 0], TH, true, 1⟩) (hqc : S.H q = .live ⟨r.flatMap ptc, TP, true, 2⟩) (hG : ∀ j, S.H (j + 200) = famO TP Y (j + 200)) :
    Weak C S (mkF C.m ((t, .slice (some ⟨K, 0, none⟩) n 0) :: T) [(0, b0), (K, ⟨hds (· + 200) (Y ++ [r]), TH, true, 1⟩)] (famO TP (Y ++ [r]))) := by
  have s0 : (if (0 : Nat) = K then K0 else if 0 = Y.length + 200 then q else 0) = 0 := by rw [if_neg (by omega), if_neg (by omega)]
  have sF : ∀ j, (if j + 200 = K then K0 else if j + 200 = Y.length + 200 then q else j + 200) = if j = Y.length then q else j + 200 := fun j => by
    rw [if_neg (by omega)]
    by_cases e : j = Y.length
    · rw [if_pos e, if_pos (by omega)]
    · rw [if_neg e, if_neg (by omega)]
  have hO : ∀ j b, famO TP (Y ++ [r]) (j + 200) = .live b → j < Y.length + 1 ∧ b = ⟨((Y ++ [r]).getD j []).flatMap ptc, TP, true, 2⟩ := fun j b h => by
    unfold famO ownB at h
    rw [Nat.add_sub_cancel] at h
    split at h
    · rename_i hj; simp at hj; simp only [Cell.live.injEq] at h; exact ⟨hj, h.symm⟩
    · cases h
  have tell : ∀ x, (x = 0 ∨ x = K ∨ ∃ j, j < Y.length + 1 ∧ x = j + 200) →
      (x = 0 ∧ (if x = K then K0 else if x = Y.length + 200 then q else x) = 0) ∨ (x = K ∧ (if x = K then K0 else if x = Y.length + 200 then q else x) = K0) ∨
      (x = Y.length + 200 ∧ (if x = K then K0 else if x = Y.length + 200 then q else x) = q) ∨ (200 ≤ x ∧ x ≠ Y.length + 200 ∧ (if x = K then K0 else if x = Y.length + 200 then q else x) = x) := fun x hx => by
    rcases hx with h | h | ⟨j, hj, h⟩
    · subst h; exact .inl ⟨rfl, s0⟩
    · exact .inr (.inl ⟨h, if_pos h⟩)
    · by_cases e : j = Y.length
      · exact .inr (.inr (.inl ⟨by omega, by rw [if_neg (by omega), if_pos (by omega)]⟩))
      · exact .inr (.inr (.inr ⟨by omega, by omega, by rw [if_neg (by omega), if_neg (by omega)]⟩))
  refine weakG (T0 := (t, .slice (some ⟨K0, 0, none⟩) n 0) :: T) (fun k => if k = K then K0 else if k = Y.length + 200 then q else k) (fun k => k = 0 ∨ k = K ∨ ∃ j, j < Y.length + 1 ∧ k = j + 200) (by omega) ⟨ht, gM hT⟩ ⟨rfl, ?_, .fix fun t v hv => .fix (fun k hk => ?_) (vQ cT hv)⟩ (fun k b hk => ?_) (fun k hk hp => ?_) (fun k b hk hb => ?_) (fun k hk hf hp => ?_) (fun k k' b b' hne hp hp' h1 h2 ho nv => ?_) (fun k hk => ?_)
  · have := RenV.slice (σ := fun k => if k = K then K0 else if k = Y.length + 200 then q else k) (p := fun k => k = 0 ∨ k = K ∨ ∃ j, j < Y.length + 1 ∧ k = j + 200) K 0 n 0 0 (.inr (.inl rfl))
    rwa [show (if K = K then K0 else if K = Y.length + 200 then q else K) = K0 from if_pos rfl] at this
  · rcases hk with h | h
    · have : k = 0 := by omega
      subst this; exact ⟨.inl rfl, s0⟩
    · exact absurd h List.not_mem_nil
  · simp only [List.mem_cons, List.not_mem_nil, or_false, Prod.mk.injEq] at hk
    rcases hk with ⟨rfl, rfl⟩ | ⟨rfl, rfl⟩
    · exact ⟨.inl rfl, _, by show S.H (if 0 = K then K0 else if 0 = Y.length + 200 then q else 0) = _; rw [s0]; exact h0, rfl, id, rfl, .flats h0f⟩
    · refine ⟨.inr (.inl rfl), ⟨hds (· + 200) Y ++ [.slice (some ⟨q, 0, none⟩) r.length 0], TH, true, 1⟩, by show S.H (if k = k then K0 else _) = _; rw [if_pos rfl]; exact hKc, rfl, id, rfl, ?_⟩
      show RenL _ _ (hds (· + 200) (Y ++ [r])) _
      rw [qB7]
      exact vC fun j hj => ⟨.inr (.inr ⟨j, by simpa using hj, rfl⟩), sF j⟩
  · rcases hp with h | h | ⟨j, _, h⟩
    · exact .inl (by omega)
    · exact .inr (by simp [h])
    · omega
  · obtain ⟨j, rfl⟩ : ∃ j, k = j + 200 := ⟨k - 200, by omega⟩
    obtain ⟨hj, rfl⟩ := hO j b hb
    refine ⟨.inr (.inr ⟨j, hj, rfl⟩), ?_⟩
    show ∃ b0, S.H (if j + 200 = K then K0 else if j + 200 = Y.length + 200 then q else j + 200) = _ ∧ _
    rw [sF]
    by_cases e : j = Y.length
    · rw [if_pos e, app_getD, if_pos e]
      exact ⟨_, hqc, renW_flat⟩
    · rw [if_neg e, app_getD, if_neg e]
      refine ⟨_, (hG j).trans ?_, renW_flat⟩
      unfold famO ownB
      rw [Nat.add_sub_cancel, if_pos (by omega)]
  · rcases hp with h | h | ⟨j, hj, rfl⟩
    · omega
    · omega
    · unfold famO ownB at hf
      rw [Nat.add_sub_cancel, if_pos (by simpa using hj)] at hf; cases hf
  · have e0 : b.own = true → k = 0 → False := fun ho e => by
      subst e
      rw [vE (by omega)] at h1
      have := jY (gL _ _) h1
      simp only [List.mem_cons, List.not_mem_nil, or_false, Prod.mk.injEq] at this
      rcases this with ⟨_, rfl⟩ | ⟨h, _⟩
      · rw [h0o] at ho; cases ho
      · omega
    have e0 := e0 ho
    have f0 : k' = 0 → S.H 0 = .live b' := fun e => by
      subst e
      rw [vE (by omega)] at h2
      have := jY (gL _ _) h2
      simp only [List.mem_cons, List.not_mem_nil, or_false, Prod.mk.injEq] at this
      rcases this with ⟨_, rfl⟩ | ⟨h, _⟩
      · exact h0
      · omega
    have t1 := tell k hp
    have t2 := tell k' hp'
    clear hp hp' tell h1 h2
    show (if k = K then K0 else if k = Y.length + 200 then q else k) ≠ (if k' = K then K0 else if k' = Y.length + 200 then q else k')
    rcases t1 with ⟨a1, a3⟩ | ⟨a1, a3⟩ | ⟨a1, a3⟩ | ⟨a1, a2, a3⟩ <;> rcases t2 with ⟨c1, c3⟩ | ⟨c1, c3⟩ | ⟨c1, c3⟩ | ⟨c1, c2, c3⟩ <;> rw [a3, c3] <;> omega
  · have : k = 0 := by omega
    subst this; exact ⟨.inl rfl, s0⟩
theorem nU {Y : List Row} {j : Nat} (h : j < Y.length) : famO TP Y (j + 200) = .live ⟨(Y.getD j []).flatMap ptc, TP, true, 2⟩ := by
  unfold famO ownB; rw [Nat.add_sub_cancel, if_pos h]
theorem snoc_rows {q : Nat} {Y : List Row} {r : Row} (hqc : S.H q = .live ⟨r.flatMap ptc, TP, true, 2⟩) (hG : ∀ j, S.H (j + 200) = famO TP Y (j + 200)) : ∀ j, j < (Y ++ [r]).length → ∃ e o, S.H ((fun j => if j = Y.length then q else j + 200) j) = .live ⟨((Y ++ [r]).getD j []).flatMap ptc, e, o, 2⟩ := fun j hj => by
  refine ⟨TP, true, ?_⟩
  rw [app_getD]
  dsimp only
  by_cases e : j = Y.length
  · rw [if_pos e, if_pos e]; exact hqc
  · rw [if_neg e, if_neg e, hG, nU (by simp at hj; omega)]
end
def famW (TH TP : TypeId) (kh : Nat) (nm : Nat → Nat) (X : List Row) : List (Nat × Blk) := (kh, ⟨hds nm X, TH, true, 1⟩) :: (List.range X.length).map fun j => (nm j, ⟨(X.getD j []).flatMap ptc, TP, true, 2⟩)
def cloP (TH TP : TypeId) (X : List Row) : List (Nat × Blk) := (0, ⟨hds (· + 1) X, TH, false, 1⟩) :: (List.range X.length).map fun j => (j + 1, ⟨[], TP, false, 2⟩)
theorem qC3 {TH TP : TypeId} {X : List Row} {k : Nat} {b : Blk} (h : (k, b) ∈ cloP TH TP X) : (k = 0 ∧ b = ⟨hds (· + 1) X, TH, false, 1⟩) ∨ ∃ j, j < X.length ∧ k = j + 1 ∧ b = ⟨[], TP, false, 2⟩ := by
  unfold cloP at h
  rcases List.mem_cons.1 h with h | h
  · simp only [Prod.mk.injEq] at h; exact .inl h
  · obtain ⟨j, hj, e⟩ := List.mem_map.1 h
    simp only [Prod.mk.injEq] at e
    exact .inr ⟨j, List.mem_range.1 hj, e.1.symm, e.2.symm⟩
theorem qA0 {σ : Nat → Nat} {p : Nat → Prop} {TP : TypeId} {X : List Row} {f g : Nat → Nat} (h : ∀ j, g j = σ (f j)) : ∀ (l : List Nat), RenH σ p (l.map fun j => (f j, (⟨(X.getD j []).flatMap ptc, TP, true, 2⟩ : Blk))) (l.map fun j => (g j, (⟨(X.getD j []).flatMap ptc, TP, true, 2⟩ : Blk)))
  | [] => trivial
  | j :: l => ⟨h j, ⟨rfl, rfl, rfl, .flats (qA _)⟩, qA0 h l⟩
section
variable {C : Ctx} {P : Program} {ops : Array Oper} {i : Nat} {S : St}
def sigK (n kh kh2 : Nat) (nm : Nat → Nat) (k : Nat) : Nat := if k = 0 then kh else if k ≤ n then nm (k - 1) else if k = n + 1 then kh2 else nB (k - (n + 2))
/-- a call that makes a slice of slices out of another one -/
theorem does_famK (kh kh2 : Nat) (nm : Nat → Nat) {X Y : List Row} {TH TP : TypeId} {g n : Nat} {args0 : List Value} (ars : Array Operand) (ats : Array TypeId) (vs : List Value) (ac : AC P g (1 + n) args0 (famP TH TP X) (.tuple #[.slice (some ⟨1 + n, 0, none⟩) Y.length 0, .int .i64 0]) (famQ TH TP (1 + n) Y))
    (hn : X.length = n) (hYn : Y.length = n) (hH : ∃ e o, S.H kh = .live ⟨hds nm X, e, o, 1⟩) (hR : ∀ j, j < X.length → ∃ e o, S.H (nm j) = .live ⟨(X.getD j []).flatMap ptc, e, o, 2⟩) (ha : RenL (sigK n kh kh2 nm) (· < 1 + n) args0 vs) (hkh : kh2 < 200)
    (hfr : S.H kh2 = .fresh := by kernel_rfl) (hfr2 : ∀ j, S.H (nB j) = .fresh := by intro j; kernel_rfl)
    (hs : qZ ops S i = some (.call ⟨.value (.func g), ars, ats⟩, true) := by kernel_rfl) (hf : ev S (.func g) = some (.func (.func g) #[] #[]) := by kernel_rfl) (hargs : evs S ars.toList = some vs := by kernel_rfl) (hg : wJ P g = true := by kernel_rfl) :
    Does C P ops i S ⟨(kh :: (List.range n).map nm) ++ (List.range' (1 + n) (1 + n)).map (sigK n kh kh2 nm), .tuple #[.slice (some ⟨kh2, 0, none⟩) n 0, .int .i64 0], jA [] (famW TH TP kh2 nB Y)⟩ := by
  have s0 : sigK n kh kh2 nm 0 = kh := if_pos rfl
  have s1 : ∀ j, j < n → sigK n kh kh2 nm (j + 1) = nm j := fun j hj => by unfold sigK; rw [if_neg (by omega), if_pos (by omega), Nat.add_sub_cancel]
  have s2 : sigK n kh kh2 nm (1 + n) = kh2 := by unfold sigK; rw [if_neg (by omega), if_neg (by omega), if_pos (by omega)]
  have s3 : ∀ j, sigK n kh kh2 nm (1 + n + 1 + j) = nB j := fun j => by unfold sigK; rw [if_neg (by omega), if_neg (by omega), if_neg (by omega), show 1 + n + 1 + j - (n + 2) = j by omega]
  have sc : ∀ k, 1 + n ≤ k → k = 1 + n ∨ ∃ j, k = 1 + n + 1 + j := fun k hk => by
    rcases Nat.eq_or_lt_of_le hk with e | e
    · exact .inl e.symm
    · exact .inr ⟨k - (1 + n + 1), by omega⟩
  refine mB (firsts := #[]) (caps := #[]) (r := 1 + n) (sigK n kh kh2 nm) _ hs hf hargs hg ac (by simpa using ha) (fun k b hk => ⟨?_, nT hk⟩) (fun j hj => ?_) (fun j b0 hj => ?_) (fun k b hk => ?_) (fun k h1 h2 => ?_) (fun p q hp hp2 hq hq2 e => ?_) (fun j h1 h2 => ?_) ?_ ?_
  · rcases bK hk with ⟨rfl, _⟩ | ⟨j, h1, rfl, _⟩ <;> omega
  · cases j with
    | zero => exact ⟨_, qBD⟩
    | succ j => exact ⟨_, qBC (by omega)⟩
  · rcases bK hj with ⟨rfl, rfl⟩ | ⟨q, h1, rfl, rfl⟩
    · obtain ⟨e, o, h⟩ := hH
      refine ⟨by rw [s0]; exact List.mem_cons_self, ⟨hds nm X, e, o, 1⟩, by rw [s0]; exact h, rfl, .inr (vC fun j hj => ⟨by omega, s1 j (by omega)⟩)⟩
    · obtain ⟨e, o, h⟩ := hR q h1
      refine ⟨by rw [s1 q (by omega)]; exact List.mem_cons_of_mem _ (List.mem_map.2 ⟨q, List.mem_range.2 (by omega), rfl⟩), ⟨(X.getD q []).flatMap ptc, e, o, 2⟩, by rw [s1 q (by omega)]; exact h, rfl, .inr (.flats (qA _))⟩
  · rcases dM hk with ⟨rfl, _⟩ | ⟨j, hj, rfl, _⟩ <;> omega
  · unfold famQ
    rw [List.map_cons, List.map_map]
    rcases sc k h1 with rfl | ⟨j, rfl⟩
    · exact List.mem_cons_self
    · exact List.mem_cons_of_mem _ (List.mem_map.2 ⟨j, List.mem_range.2 (by omega), rfl⟩)
  · rcases sc p hp with rfl | ⟨a, rfl⟩ <;> rcases sc q hq with rfl | ⟨b, rfl⟩
    · rfl
    · rw [s2, s3] at e; have := j5 b; omega
    · rw [s2, s3] at e; have := j5 a; omega
    · rw [s3, s3] at e; rw [fP e]
  · rcases sc j h1 with rfl | ⟨a, rfl⟩
    · rw [s2]; exact hfr
    · rw [s3]; exact hfr2 a
  · refine ⟨s2.symm, ⟨rfl, rfl, rfl, vC fun j hj => ⟨by omega, s3 j⟩⟩, qA0 (fun j => (s3 j).symm) _⟩
  · refine .tuple _ _ rfl fun i hi => ?_
    match i, hi with
    | 0, _ =>
      have := RenV.slice (σ := sigK n kh kh2 nm) (p := (· < 1 + n + (1 + n))) (1 + n) 0 Y.length 0 0 (by omega)
      rw [s2, hYn] at this
      rw [hYn]; exact this
    | 1, _ => exact .flat _ (.int _ _)
def sigC (n K q k : Nat) : Nat := if k = 0 then K else if k ≤ n then k - 1 + 200 else q
/-- the copy of a slice of slices -/
theorem eF (K q : Nat) {X : List Row} {TH TP e : TypeId} {o : Bool} {g : Nat} (ars : Array Operand) (ats : Array TypeId) (vs : List Value) (ac : AC P g (1 + X.length) [.slice (some ⟨0, 0, none⟩) X.length 0] (cloP TH TP X) (.slice (some ⟨1 + X.length, 0, none⟩) X.length 0) [(1 + X.length, ⟨hds (· + 1) X, TH, true, 1⟩)])
    (hH : S.H K = .live ⟨hds (· + 200) X, e, o, 1⟩) (hR : ∀ j, j < X.length → S.H (j + 200) = .live ⟨(X.getD j []).flatMap ptc, TP, true, 2⟩) (hvs : vs = [.slice (some ⟨K, 0, none⟩) X.length 0]) (hfr : S.H q = .fresh := by kernel_rfl)
    (hs : qZ ops S i = some (.call ⟨.value (.func g), ars, ats⟩, true) := by kernel_rfl) (hf : ev S (.func g) = some (.func (.func g) #[] #[]) := by kernel_rfl) (hargs : evs S ars.toList = some vs := by kernel_rfl) (hg : wJ P g = true := by kernel_rfl) :
    Does C P ops i S ⟨(K :: (List.range X.length).map (· + 200)) ++ [q], .slice (some ⟨q, 0, none⟩) X.length 0, jA [] [(q, ⟨hds (· + 200) X, TH, true, 1⟩)]⟩ := by
  have s0 : sigC X.length K q 0 = K := if_pos rfl
  have s1 : ∀ j, j < X.length → sigC X.length K q (j + 1) = j + 200 := fun j hj => by unfold sigC; rw [if_neg (by omega), if_pos (by omega), Nat.add_sub_cancel]
  have s2 : sigC X.length K q (1 + X.length) = q := by unfold sigC; rw [if_neg (by omega), if_neg (by omega)]
  subst hvs
  have er : (List.range' (1 + X.length) 1).map (sigC X.length K q) = [q] := by simp [s2]
  rw [← er]
  refine mB (firsts := #[]) (caps := #[]) (r := 1) (sigC X.length K q) _ hs hf hargs hg ac ?_ (fun k b hk => ?_) (fun j hj => ?_) (fun j b0 hj => ?_) (fun k b hk => ?_) (fun k h1 h2 => ?_) (fun p q hp hp2 hq hq2 e => ?_) (fun j h1 h2 => ?_) ?_ ?_
  · have := RenV.slice (σ := sigC X.length K q) (p := (· < 1 + X.length)) 0 0 X.length 0 0 (by omega)
    rw [s0] at this
    simpa using RenL.cons this .nil
  · rcases qC3 hk with ⟨rfl, rfl⟩ | ⟨j, h1, rfl, rfl⟩
    · exact ⟨by omega, rfl⟩
    · exact ⟨by omega, rfl⟩
  · cases j with
    | zero => exact ⟨_, List.mem_cons_self⟩
    | succ j => exact ⟨_, List.mem_cons_of_mem _ (List.mem_map.2 ⟨j, List.mem_range.2 (by omega), rfl⟩)⟩
  · rcases qC3 hj with ⟨rfl, rfl⟩ | ⟨a, h1, rfl, rfl⟩
    · exact ⟨by rw [s0]; exact List.mem_cons_self, ⟨hds (· + 200) X, e, o, 1⟩, by rw [s0]; exact hH, rfl, .inr (vC fun j hj => ⟨by omega, s1 j hj⟩)⟩
    · exact ⟨by rw [s1 a h1]; exact List.mem_cons_of_mem _ (List.mem_map.2 ⟨a, List.mem_range.2 h1, rfl⟩), ⟨(X.getD a []).flatMap ptc, TP, true, 2⟩, by rw [s1 a h1]; exact hR a h1, rfl, .inl rfl⟩
  · simp only [List.mem_cons, List.not_mem_nil, or_false, Prod.mk.injEq] at hk
    omega
  · rw [show k = 1 + X.length by omega]; exact List.mem_cons_self
  · omega
  · rw [show j = 1 + X.length by omega, s2]; exact hfr
  · exact ⟨s2.symm, ⟨rfl, rfl, rfl, vC fun j hj => ⟨by omega, s1 j hj⟩⟩, trivial⟩
  · have := RenV.slice (σ := sigC X.length K q) (p := (· < 1 + X.length + 1)) (1 + X.length) 0 X.length 0 0 (by omega)
    rwa [s2] at this
end
def roB (TP : TypeId) (Y : List Row) : Nat → Cell := fun j => .live ⟨(Y.getD j []).flatMap ptc, TP, false, 2⟩
theorem yR (TP : TypeId) (Y : List Row) : FlatB (roB TP Y) := fun j b h v hv => by
  unfold roB at h
  simp only [Cell.live.injEq] at h
  subst h
  exact qT (List.all_eq_true.1 (qA _) v hv)
def noB : Nat → Cell := fun _ => .fresh
theorem nD : FlatB noB := fun j b h => by cases h
theorem dN (TP : TypeId) (X Y : List Row) (j : Nat) : fam2 TP X (roB TP Y) (nB j) = .live ⟨(Y.getD j []).flatMap ptc, TP, false, 2⟩ := xB ..
theorem sT {X : List Row} {j : Nat} (h : X.length ≤ j) : (X.getD j []).flatMap ptc = [] := by
  rw [List.getD_eq_getElem?_getD, List.getElem?_eq_none_iff.2 h]; rfl
theorem wr_none {l : List (Nat × Cell)} {H : Nat → Cell} {k : Nat} (h : k ∉ l.map (·.1)) : wr l H k = H k := by unfold wr; rw [yE h]; rfl
theorem wr_live {post : List (Nat × Blk)} {H : Nat → Cell} {k : Nat} {b : Blk} (hm : (k, b) ∈ post) (hu : ∀ b', (k, b') ∈ post → b' = b) : wr (jA [] post) H k = .live b := by
  obtain ⟨c, h1, h2⟩ := gK (l := jA [] post) (n := k) (gX.2 (.inl (List.mem_map.2 ⟨_, hm, rfl⟩)))
  unfold wr
  rw [h1]
  cases c with
  | live b' => rw [hu b' (w5 h1)]; rfl
  | fresh => exact absurd rfl (w4 h1)
  | gone =>
    simp only [jA, List.filter_nil, List.map_nil, List.append_nil, List.mem_map, Prod.mk.injEq] at h2
    obtain ⟨x, _, _, h⟩ := h2; cases h
theorem wr_old {post : List (Nat × Blk)} {H : Nat → Cell} {k : Nat} (h : k ∉ post.map (·.1)) : wr (jA [] post) H k = H k :=
  wr_none fun e => by
    rcases gX.1 e with q | ⟨b, q, _⟩
    · exact h q
    · cases q
theorem nS {TH TP : TypeId} {kh : Nat} {nm : Nat → Nat} {X : List Row} {k : Nat} {b : Blk} (h : (k, b) ∈ famW TH TP kh nm X) : (k = kh ∧ b = ⟨hds nm X, TH, true, 1⟩) ∨ ∃ j, j < X.length ∧ k = nm j ∧ b = ⟨(X.getD j []).flatMap ptc, TP, true, 2⟩ := by
  unfold famW at h
  rcases List.mem_cons.1 h with h | h
  · simp only [Prod.mk.injEq] at h; exact .inl h
  · obtain ⟨j, hj, e⟩ := List.mem_map.1 h
    simp only [Prod.mk.injEq] at e
    exact .inr ⟨j, List.mem_range.1 hj, e.1.symm, e.2.symm⟩
theorem famW_hd {TH TP : TypeId} {kh : Nat} {nm : Nat → Nat} {X : List Row} {H : Nat → Cell} (hk : kh < 200) (hn : ∀ j, 200 ≤ nm j) : wr (jA [] (famW TH TP kh nm X)) H kh = .live ⟨hds nm X, TH, true, 1⟩ :=
  wr_live (List.mem_cons_self) fun b' hb => by
    rcases nS hb with ⟨_, h⟩ | ⟨j, _, h, _⟩
    · exact h
    · have := hn j; omega
theorem famW_row {TH TP : TypeId} {kh : Nat} {nm : Nat → Nat} {X : List Row} {H : Nat → Cell} (hk : kh < 200) (hn : ∀ j, 200 ≤ nm j) (hi : ∀ i j, nm i = nm j → i = j) {j : Nat} (hj : j < X.length) : wr (jA [] (famW TH TP kh nm X)) H (nm j) = .live ⟨(X.getD j []).flatMap ptc, TP, true, 2⟩ :=
  wr_live (List.mem_cons_of_mem _ (List.mem_map.2 ⟨j, List.mem_range.2 hj, rfl⟩)) fun b' hb => by
    rcases nS hb with ⟨h, _⟩ | ⟨j', _, h, e⟩
    · have := hn j; omega
    · rw [e, hi _ _ h]
theorem famW_no {TH TP : TypeId} {kh : Nat} {nm : Nat → Nat} {X : List Row} {H : Nat → Cell} {k : Nat} (h : k ≠ kh) (h2 : ∀ j, k ≠ nm j) : wr (jA [] (famW TH TP kh nm X)) H k = H k :=
  wr_old fun e => by
    obtain ⟨x, hx, rfl⟩ := List.mem_map.1 e
    rcases nS (k := x.1) (b := x.2) hx with ⟨q, _⟩ | ⟨j, _, q, _⟩
    · exact h q
    · exact h2 j q
section
variable {C : Ctx} {S : St} {T : List (Nat × Value)} {TH TP : TypeId}
open Classical in
/-- the rows of a slice of slices, and the slice itself, are only read from here on -/
theorem freeze {kh : Nat} {nm : Nat → Nat} {X : List Row} {e : TypeId} {o : Bool} (hm : C.m = 1) (hk : 1 ≤ kh ∧ kh < 200) (hT : T.map (fun x => S.T x.1) = T.map (fun x => some x.2)) (cT : xX 1 [kh] T = true)
    (hH : S.H kh = .live ⟨hds nm X, TH, o, 1⟩) (hR : ∀ j, j < X.length → ∃ o, S.H (nm j) = .live ⟨(X.getD j []).flatMap ptc, TP, o, 2⟩) : Weak C S (mkF C.m T [(kh, ⟨hds nA X, TH, false, 1⟩)] (fam2 TP X noB)) := by
  have sA : ∀ j, (if 200 ≤ nA j then nm ((nA j - 200) / 2) else nA j) = nm j := fun j => by
    rw [if_pos (j1 j), show (nA j - 200) / 2 = j by unfold nA; omega]
  have sl : ∀ k, k < 200 → (if 200 ≤ k then nm ((k - 200) / 2) else k) = k := fun k h => if_neg (by omega)
  have par2 : ∀ k, 200 ≤ k → (∃ j, k = nA j) ∨ ∃ j, k = nB j := fun k h => par h
  refine w6 (fun k => if 200 ≤ k then nm ((k - 200) / 2) else k) (fun k => k = 0 ∨ k = kh ∨ ∃ j, j < X.length ∧ k = nA j) (fun k => if (∃ j, X.length ≤ j ∧ k = nA j) then some 2 else none) (fun t v hv => ?_) (fun k hf => .inl ?_) (fun k b hb => ?_) (fun k k' b b' hne h1 h2 ho nv => ?_) (fun k hk' => ?_)
  · have hmm := vZ hv
    refine ⟨v, (gM hT).mem hmm, .fix (fun q hq => ?_) (vQ cT hmm)⟩
    rcases hq with h | h
    · have : q = 0 := by omega
      subst this; exact ⟨.inl rfl, sl 0 (by omega)⟩
    · simp only [List.mem_cons, List.not_mem_nil, or_false] at h
      subst h; exact ⟨.inr (.inl rfl), sl q hk.2⟩
  · rcases Nat.lt_or_ge k 200 with hlt | hge
    · rw [vE hlt] at hf
      refine ⟨fun hp => ?_, if_neg (by rintro ⟨j, _, h⟩; have := j1 j; omega)⟩
      rcases hp with h | h | ⟨j, _, h⟩
      · subst h
        have hb : ofH (base C.m 0) [(kh, (⟨hds nA X, TH, false, 1⟩ : Blk))] 0 = base C.m 0 := v7 (by simp; omega)
        rw [hb, hm] at hf; cases hf
      · subst h
        obtain ⟨b, hb⟩ := xF (L := [(k, (⟨hds nA X, TH, false, 1⟩ : Blk))]) (d := base C.m k) (k := k) (by simp)
        rw [hb] at hf; cases hf
      · have := j1 j; omega
    · rw [vV hge] at hf
      rcases par2 k hge with ⟨j, rfl⟩ | ⟨j, rfl⟩
      · rw [gG] at hf; cases hf
      · refine ⟨fun hp => ?_, if_neg (by rintro ⟨i, _, h⟩; exact sU i j h.symm)⟩
        rcases hp with h | h | ⟨i, _, h⟩
        · have := j5 j; omega
        · have := j5 j; omega
        · exact sU i j h.symm
  · rcases Nat.lt_or_ge k 200 with hlt | hge
    · rw [vE hlt] at hb
      have := jY (gL _ _) hb
      simp only [List.mem_cons, List.not_mem_nil, or_false, Prod.mk.injEq] at this
      obtain ⟨rfl, rfl⟩ := this
      refine .inl ⟨.inr (.inl rfl), ⟨hds nm X, TH, o, 1⟩, by show S.H (if 200 ≤ k then _ else _) = _; rw [sl k hk.2]; exact hH, rfl, (fun h => by cases h), rfl, vC fun j hj => ⟨.inr (.inr ⟨j, hj, rfl⟩), sA j⟩⟩
    · rw [vV hge] at hb
      rcases par2 k hge with ⟨j, rfl⟩ | ⟨j, rfl⟩
      · rw [gG] at hb
        simp only [Cell.live.injEq] at hb
        subst hb
        by_cases hj : j < X.length
        · obtain ⟨o2, h2⟩ := hR j hj
          exact .inl ⟨.inr (.inr ⟨j, hj, rfl⟩), ⟨(X.getD j []).flatMap ptc, TP, o2, 2⟩, by show S.H (if 200 ≤ nA j then _ else _) = _; rw [sA]; exact h2, rfl, (fun h => by cases h), rfl, .flats (qA _)⟩
        · refine .inr ⟨fun hp => ?_, if_pos ⟨j, by omega, rfl⟩, rfl, sT (by omega)⟩
          rcases hp with h | h | ⟨i, hi, h⟩
          · have := j1 j; omega
          · have := j1 j; omega
          · rw [nA_inj h] at hj; exact hj hi
      · rw [xB] at hb; cases hb
  · exfalso
    rcases Nat.lt_or_ge k 200 with hlt | hge
    · rw [vE hlt] at h1
      have := jY (gL _ _) h1
      simp only [List.mem_cons, List.not_mem_nil, or_false, Prod.mk.injEq] at this
      rw [this.2] at ho; cases ho
    · rw [vV hge] at h1
      rcases par2 k hge with ⟨j, rfl⟩ | ⟨j, rfl⟩
      · rw [gG] at h1
        simp only [Cell.live.injEq] at h1
        rw [← h1] at ho; cases ho
      · rw [xB] at h1; cases h1
  · have : k = 0 := by omega
    subst this; exact ⟨.inl rfl, sl 0 (by omega)⟩
end
theorem nM {ops : Array Oper} {steps : List Step} {A : List (List Nat)} (c : Nat) (l1 R l2 : List Nat) (hR : ∀ k, k ∈ R → 200 ≤ k) (hc : (steps.getD c default).reads = l1 ++ R ++ l2) (hk : (steps.all fun s => (gF s).all fun k => Nat.blt k 200) = true)
    (h : vH ops (steps.set c ⟨l1 ++ l2, (steps.getD c default).eff⟩) A = true) : vH ops steps A = true := by
  unfold vH at *
  rw [List.all_eq_true] at hk h ⊢
  intro i hi
  have h1 := h i hi
  rw [List.all_eq_true] at h1 ⊢
  intro j hj
  have h2 := h1 j hj
  have hset : ∀ q, ((steps.set c ⟨l1 ++ l2, (steps.getD c default).eff⟩).getD q default).eff = (steps.getD q default).eff ∧ (q ≠ c → (steps.set c ⟨l1 ++ l2, (steps.getD c default).eff⟩).getD q default = steps.getD q default) ∧ (q = c → c < steps.length → ((steps.set c ⟨l1 ++ l2, (steps.getD c default).eff⟩).getD q default).reads = l1 ++ l2) := fun q => by
    simp only [List.getD_eq_getElem?_getD, List.getElem?_set]
    by_cases e : c = q
    · subst e
      rw [if_pos rfl]
      by_cases hl : c < steps.length
      · rw [if_pos hl]; exact ⟨rfl, fun h => absurd rfl h, fun _ _ => rfl⟩
      · rw [if_neg hl, List.getElem?_eq_none_iff.2 (by omega)]; exact ⟨rfl, fun h => absurd rfl h, fun _ h => absurd h hl⟩
    · rw [if_neg e]; exact ⟨rfl, fun _ => rfl, fun h => absurd h.symm e⟩
  have kj : gF ((steps.set c ⟨l1 ++ l2, (steps.getD c default).eff⟩).getD j default) = gF (steps.getD j default) := by unfold gF; rw [(hset j).1]
  have ki : gF ((steps.set c ⟨l1 ++ l2, (steps.getD c default).eff⟩).getD i default) = gF (steps.getD i default) := by unfold gF; rw [(hset i).1]
  rw [kj, ki] at h2
  by_cases e : i = c
  · subst e
    by_cases hl : i < steps.length
    · rw [(hset i).2.2 rfl hl] at h2
      have he : (gF (steps.getD j default)).all (fun k => !((steps.getD i default).reads ++ gF (steps.getD i default)).any (Nat.beq k)) = (gF (steps.getD j default)).all (fun k => !(l1 ++ l2 ++ gF (steps.getD i default)).any (Nat.beq k)) := by
        rw [hc, Bool.eq_iff_iff, List.all_eq_true, List.all_eq_true]
        have hk2 : ∀ k, k ∈ gF (steps.getD j default) → k < 200 := fun k hkm => by
          rw [List.getD_eq_getElem?_getD] at hkm
          cases hjx : steps[j]? with
          | none => rw [hjx] at hkm; exact absurd hkm (by simp [gF, default])
          | some s =>
            rw [hjx] at hkm
            exact gB (List.all_eq_true.1 (hk s (List.mem_of_getElem? hjx)) k hkm)
        have hR0 : ∀ k, k ∈ gF (steps.getD j default) → R.any (Nat.beq k) = false := fun k hkm => by
          rw [← Bool.not_eq_true]
          intro hh
          have := hR k (any_beq.1 hh)
          have := hk2 k hkm
          omega
        constructor
        · intro hh k hkm
          have := hh k hkm
          simp only [List.any_append, hR0 k hkm, Bool.or_false] at this ⊢
          exact this
        · intro hh k hkm
          have := hh k hkm
          simp only [List.any_append, hR0 k hkm, Bool.or_false] at this ⊢
          exact this
      rw [he]; exact h2
    · have e2 : (steps.getD i default).reads = [] := by rw [List.getD_eq_getElem?_getD, List.getElem?_eq_none_iff.2 (by omega)]; rfl
      have e3 : l1 ++ R ++ l2 = [] := by rw [← hc, e2]
      have e4 : steps.set i ⟨l1 ++ l2, (steps.getD i default).eff⟩ = steps := List.set_eq_of_length_le (by omega)
      rw [e4] at h2; exact h2
  · rw [(hset i).2.1 e] at h2; exact h2
theorem ge200 (n : Nat) : ∀ k, k ∈ (List.range n).map (· + 200) → 200 ≤ k := fun k hk => by
  obtain ⟨j, _, rfl⟩ := List.mem_map.1 hk
  show 200 ≤ j + 200
  omega
theorem aw_dL {C : Ctx} {P : Program} {Q : Exit → St → Prop} {f : Func} {n : Nat} {S S1 : St} {steps : List Step} (y c : Nat) (l1 R l2 : List Nat) (hR : ∀ k, k ∈ R → 200 ≤ k) (hr : Runs C P (opsL (sb f n)) 0 S steps S1) (h : AW C P (sb f y) S1 Q) (hc : (steps.getD c default).reads = l1 ++ R ++ l2 := by kernel_rfl)
    (hkey : (steps.all fun s => (gF s).all fun k => Nat.blt k 200) = true := by kernel_rfl) (hk : isSR (sb f n) true = true := by kernel_rfl) (hy : cK (sb f n) = sb f y := by kernel_rfl)
    (hm : P.follows .mixedOrders = true := by kernel_rfl) (hd : dstB (opsL (sb f n)) C.n = true := by kernel_rfl) (hn : steps.length = (opsL (sb f n)).size := by kernel_rfl)
    (hA : (tU (opsL (sb f n)) (ancC (opsL (sb f n))) && gH (opsL (sb f n)) (ancC (opsL (sb f n)))) = true := by kernel_rfl) (hA2 : vH (opsL (sb f n)) (steps.set c ⟨l1 ++ l2, (steps.getD c default).eff⟩) (ancC (opsL (sb f n))) = true := by kernel_rfl) : AW C P (sb f n) S Q :=
  aw_d y hr h hk hy hm hd hn (by rw [hA, nM c l1 R l2 hR hc hkey hA2]; rfl)
section
variable {C : Ctx} {S : St} {T : List (Nat × Value)} {TH TP : TypeId}
open Classical in
/-- behind the call that makes the second slice of slices -/
theorem qF8 {kh kh2 : Nat} {X Y : List Row} (T0 : List (Nat × Value)) (hm : C.m = 1) (hk : 1 ≤ kh ∧ kh < kh2 ∧ kh2 < 200) (hT : T.map (fun x => S.T x.1) = T.map (fun x => some x.2)) (cT : xX 1 [kh, kh2] T = true)
    (hS : ∀ k, S.H k = wr (jA [] (famW TH TP kh2 nB Y)) (mkF 1 T0 [(kh, ⟨hds nA X, TH, false, 1⟩)] (fam2 TP X noB)).H k) :
    Weak C S (mkF C.m T [(kh, ⟨hds nA X, TH, false, 1⟩), (kh2, ⟨hds nB Y, TH, false, 1⟩)] (fam2 TP X (roB TP Y))) := by
  have h1 : S.H kh = .live ⟨hds nA X, TH, false, 1⟩ := by
    rw [hS, famW_no (by omega) (fun j => by have := j5 j; omega), vE (by omega)]
    show ofH (base 1 kh) [(kh, _)] kh = _
    simp only [ofH, Nat.beq_refl, cond_true]
  have h2 : S.H kh2 = .live ⟨hds nB Y, TH, true, 1⟩ := by rw [hS, famW_hd (by omega) j5]
  have hA : ∀ j, S.H (nA j) = .live ⟨(X.getD j []).flatMap ptc, TP, false, 2⟩ := fun j => by
    rw [hS, famW_no (by have := j1 j; omega) (fun i => sU j i), vV (j1 j), gG]
  have hB : ∀ j, j < Y.length → S.H (nB j) = .live ⟨(Y.getD j []).flatMap ptc, TP, true, 2⟩ := fun j hj => by rw [hS, famW_row (by omega) j5 (fun i j h => fP h) hj]
  clear hS
  refine w6 (fun k => k) (fun k => k = 0 ∨ k = kh ∨ k = kh2 ∨ (∃ j, k = nA j) ∨ ∃ j, j < Y.length ∧ k = nB j) (fun k => if (∃ j, Y.length ≤ j ∧ k = nB j) then some 2 else none) (fun t v hv => ?_) (fun k hf => .inl ?_) (fun k b hb => ?_) (fun k k' b b' hne g1 g2 ho nv => hne) (fun k hk' => ?_)
  · have hmm := vZ hv
    refine ⟨v, (gM hT).mem hmm, .same ((vQ cT hmm).mono fun q hq => ?_)⟩
    rcases hq with h | h
    · exact .inl (by omega)
    · simp only [List.mem_cons, List.not_mem_nil, or_false] at h
      exact h.elim (fun h => .inr (.inl h)) (fun h => .inr (.inr (.inl h)))
  · rcases Nat.lt_or_ge k 200 with hlt | hge
    · rw [vE hlt] at hf
      refine ⟨fun hp => ?_, if_neg (by rintro ⟨j, _, h⟩; have := j5 j; omega)⟩
      have key : k = kh ∨ k = kh2 → False := fun hp => by
        obtain ⟨b, hb⟩ := xF (L := [(kh, (⟨hds nA X, TH, false, 1⟩ : Blk)), (kh2, (⟨hds nB Y, TH, false, 1⟩ : Blk))]) (d := base C.m k) (k := k) (by simpa using hp)
        rw [hb] at hf; cases hf
      rcases hp with h | h | h | ⟨j, h⟩ | ⟨j, _, h⟩
      · subst h
        have hb : ofH (base C.m 0) [(kh, (⟨hds nA X, TH, false, 1⟩ : Blk)), (kh2, (⟨hds nB Y, TH, false, 1⟩ : Blk))] 0 = base C.m 0 := v7 (by simp; omega)
        rw [hb, hm] at hf; cases hf
      · exact key (.inl h)
      · exact key (.inr h)
      · have := j1 j; omega
      · have := j5 j; omega
    · rw [vV hge] at hf
      rcases par hge with ⟨j, rfl⟩ | ⟨j, rfl⟩
      · rw [gG] at hf; cases hf
      · rw [xB] at hf; cases hf
  · rcases Nat.lt_or_ge k 200 with hlt | hge
    · rw [vE hlt] at hb
      have := jY (gL _ _) hb
      simp only [List.mem_cons, List.not_mem_nil, or_false, Prod.mk.injEq] at this
      rcases this with ⟨rfl, rfl⟩ | ⟨rfl, rfl⟩
      · exact .inl ⟨.inr (.inl rfl), _, h1, rfl, id, rfl, vC fun j hj => ⟨.inr (.inr (.inr (.inl ⟨j, rfl⟩))), rfl⟩⟩
      · exact .inl ⟨.inr (.inr (.inl rfl)), ⟨hds nB Y, TH, true, 1⟩, h2, rfl, (fun h => by cases h), rfl, vC fun j hj => ⟨.inr (.inr (.inr (.inr ⟨j, hj, rfl⟩))), rfl⟩⟩
    · rw [vV hge] at hb
      rcases par hge with ⟨j, rfl⟩ | ⟨j, rfl⟩
      · rw [gG] at hb
        simp only [Cell.live.injEq] at hb
        subst hb
        exact .inl ⟨.inr (.inr (.inr (.inl ⟨j, rfl⟩))), _, hA j, renW_flat⟩
      · rw [dN] at hb
        simp only [Cell.live.injEq] at hb
        subst hb
        by_cases hj : j < Y.length
        · exact .inl ⟨.inr (.inr (.inr (.inr ⟨j, hj, rfl⟩))), ⟨(Y.getD j []).flatMap ptc, TP, true, 2⟩, hB j hj, rfl, (fun h => by cases h), rfl, .flats (qA _)⟩
        · refine .inr ⟨fun hp => ?_, if_pos ⟨j, by omega, rfl⟩, rfl, sT (by omega)⟩
          rcases hp with h | h | h | ⟨i, h⟩ | ⟨i, hi, h⟩
          · have := j5 j; omega
          · have := j5 j; omega
          · have := j5 j; omega
          · exact sU i j h.symm
          · rw [fP h] at hj; exact hj hi
  · exact ⟨.inl (by omega), rfl⟩
open Classical in
/-- nil told as an empty slice of slices -/
theorem nil_fam {kh t : Nat} (hm : C.m = 1) (hk : 1 ≤ kh ∧ kh < 200) (ht : S.T t = some (.slice none 0 0)) (hT : T.map (fun x => S.T x.1) = T.map (fun x => some x.2)) (cT : xX 1 [] T = true) :
    Weak C S (mkF C.m ((t, .slice (some ⟨kh, 0, none⟩) 0 0) :: T) [(kh, ⟨hds nA [], TH, false, 1⟩)] (fam2 TP [] noB)) := by
  intro ρ a w h
  let ρ' : Ren := fun k => if k = 0 then ρ 0 else if k = kh then some ⟨0, 0, 0, 1⟩ else if (∃ j, k = nA j) then some ⟨0, 0, 0, 2⟩ else none
  have r0 : ρ' 0 = ρ 0 := if_pos rfl
  have live : ∀ k b, (mkF C.m ((t, .slice (some ⟨kh, 0, none⟩) 0 0) :: T) [(kh, (⟨hds nA [], TH, false, 1⟩ : Blk))] (fam2 TP [] noB)).H k = .live b → Void b ∧ ∃ sp, ρ' k = some sp ∧ jC ρ' w sp b := fun k b hb => by
    have vd : ∀ (s : Nat) (b : Blk), Void b → s = b.step → jC ρ' w ⟨0, 0, 0, s⟩ b := fun s b v e => by
      rw [jC.ro (by rw [v.1]; decide)]; exact ⟨e, .inl v.2, fun i u hu => by rw [v.2] at hu; simp at hu⟩
    rcases Nat.lt_or_ge k 200 with hlt | hge
    · rw [vE hlt] at hb
      have := jY (gL _ _) hb
      simp only [List.mem_cons, List.not_mem_nil, or_false, Prod.mk.injEq] at this
      obtain ⟨rfl, rfl⟩ := this
      exact ⟨⟨rfl, rfl⟩, ⟨0, 0, 0, 1⟩, by show (if k = 0 then _ else if k = k then _ else _) = _; rw [if_neg (by omega), if_pos rfl], vd 1 _ ⟨rfl, rfl⟩ rfl⟩
    · rw [vV hge] at hb
      rcases par hge with ⟨j, rfl⟩ | ⟨j, rfl⟩
      · rw [gG] at hb
        simp only [Cell.live.injEq] at hb
        subst hb
        have v : Void ⟨(([] : List Row).getD j []).flatMap ptc, TP, false, 2⟩ := ⟨rfl, sT (by simp)⟩
        exact ⟨v, ⟨0, 0, 0, 2⟩, by show (if nA j = 0 then _ else if nA j = kh then _ else if (∃ i, nA j = nA i) then _ else _) = _; rw [if_neg (by have := j1 j; omega), if_neg (by have := j1 j; omega), if_pos ⟨j, rfl⟩], vd 2 _ v rfl⟩
      · rw [xB] at hb; cases hb
  refine ⟨ρ', h.size, h.defers, fun t' v hv => ?_, ⟨fun k hf => ?_, fun k b hb => (live k b hb).2, fun k k' b b' sp sp' hne h1 h2 ho => ?_⟩, h.frame, fun k b sp hb ho => ?_, fun k hk' => ?_⟩
  · have hmm := vZ hv
    rcases List.mem_cons.1 hmm with e | hmm
    · cases e
      obtain ⟨v', q1, q2⟩ := h.temps t _ ht
      cases q2
      exact ⟨_, q1, .slice0 kh 0 0 none⟩
    · obtain ⟨v', q1, q2⟩ := h.temps t' v ((gM hT).mem hmm)
      refine ⟨v', q1, q2.congr (vQ cT hmm) fun q hq => ?_⟩
      rcases hq with e | e
      · rw [show q = 0 by omega, r0]
      · exact absurd e List.not_mem_nil
  · rcases Nat.lt_or_ge k 200 with hlt | hge
    · rw [vE hlt] at hf
      have n0 : k ≠ 0 := fun e => by
        subst e
        have hb : ofH (base C.m 0) [(kh, (⟨hds nA [], TH, false, 1⟩ : Blk))] 0 = base C.m 0 := v7 (by simp; omega)
        rw [hb, hm] at hf; cases hf
      have n1 : k ≠ kh := fun e => by
        subst e
        obtain ⟨b, hb⟩ := xF (L := [(k, (⟨hds nA [], TH, false, 1⟩ : Blk))]) (d := base C.m k) (k := k) (by simp)
        rw [hb] at hf; cases hf
      show (if k = 0 then _ else if k = kh then _ else if (∃ j, k = nA j) then _ else none) = none
      rw [if_neg n0, if_neg n1, if_neg (by rintro ⟨j, h⟩; have := j1 j; omega)]
    · rw [vV hge] at hf
      rcases par hge with ⟨j, rfl⟩ | ⟨j, rfl⟩
      · rw [gG] at hf; cases hf
      · show (if nB j = 0 then _ else if nB j = kh then _ else if (∃ i, nB j = nA i) then _ else none) = none
        rw [if_neg (by have := j5 j; omega), if_neg (by have := j5 j; omega), if_neg (by rintro ⟨i, h⟩; exact sU i j h.symm)]
  · exact absurd (live k b h1).1 (gZ ho)
  · exact absurd (live k b hb).1 (gZ ho)
  · have : k = 0 := by omega
    subst this
    obtain ⟨sp, q1, q2⟩ := h.pin 0 (by omega)
    exact ⟨sp, q1, r0.trans q2⟩
end
open Go Go.Proofs
theorem eK  :
    AC Try.prog 50 0 ([.slice none 0 0]) [] (.slice none 0 0) [] := by
 refine qK Try.func50 (fun w0 W pin => ?_)
 refine aw_e 3 1 1<|qD 6 7<|aw_p 13 (
  .a 1 1 <| .p (lC (v := .bool true) kK (fun w => by kernel_rfl) kK) <| .nil _ _) ?_
 exact qR 26<|aw_e 53 1 1<|qF<|qB [.slice none 0 0] kK
theorem cloneh1 (r0 : List (Int × Int)) :
    AC Try.prog 50 2 ([.slice (some ⟨0, 0, none⟩) 1 0]) [(0, ⟨[.slice (some ⟨1, 0, none⟩) r0.length 0], 24, false, 1⟩), (1, ⟨[], 29, false, 2⟩)] (.slice (some ⟨2, 0, none⟩) 1 0) [(2, ⟨[.slice (some ⟨1, 0, none⟩) r0.length 0], 24, true, 1⟩)] := by
 refine qK Try.func50 (fun w0 W pin => ?_)
 refine aw_e 3 1 2<|qD 6 7<|aw_p 13 (
  .a 1 2 <| .p (bL (k := 0) (off := 0) (n := 1) (c := 0) kK oO) <| .nil _ _) ?_
 refine qP 27<|qH<|aw_p 15 (
  .a 2 2 <| .p (jQ 3) <| .e 1 4) ?_
 refine aw_r [(2, 3)] [(2, .slice (some ⟨3, 0, none⟩) 1 0)] [(0, ⟨[.slice (some ⟨1, 0, none⟩) r0.length 0], 24, false, 1⟩), (1, ⟨[], 29, false, 2⟩), (3, ⟨[.slice (some ⟨1, 0, none⟩) r0.length 0], 24, true, 1⟩)] [(2, .slice (some ⟨2, 0, none⟩) 1 0)] [(0, ⟨[.slice (some ⟨1, 0, none⟩) r0.length 0], 24, false, 1⟩), (1, ⟨[], 29, false, 2⟩), (2, ⟨[.slice (some ⟨1, 0, none⟩) r0.length 0], 24, true, 1⟩)] ?_ ⟨rfl, (.slice _ _ _ _ _ rfl), trivial⟩ ⟨rfl, ⟨rfl, rfl, rfl, (.cons (.slice _ _ _ _ _ rfl) .nil)⟩, rfl, ⟨rfl, rfl, rfl, (.flats kK)⟩, rfl, ⟨rfl, rfl, rfl, (.cons (.slice _ _ _ _ _ rfl) .nil)⟩, trivial⟩
 exact qF<|qB [.slice (some ⟨2, 0, none⟩) 1 0] kK
theorem cloneh2 (r0 r1 : List (Int × Int)) :
    AC Try.prog 50 3 ([.slice (some ⟨0, 0, none⟩) 2 0]) [(0, ⟨[.slice (some ⟨1, 0, none⟩) r0.length 0, .slice (some ⟨2, 0, none⟩) r1.length 0], 24, false, 1⟩), (1, ⟨[], 29, false, 2⟩), (2, ⟨[], 29, false, 2⟩)] (.slice (some ⟨3, 0, none⟩) 2 0) [(3, ⟨[.slice (some ⟨1, 0, none⟩) r0.length 0, .slice (some ⟨2, 0, none⟩) r1.length 0], 24, true, 1⟩)] := by
 refine qK Try.func50 (fun w0 W pin => ?_)
 refine aw_e 3 1 3<|qD 6 7<|aw_p 13 (
  .a 1 3 <| .p (bL (k := 0) (off := 0) (n := 2) (c := 0) kK oO) <| .nil _ _) ?_
 refine qP 27<|qH<|aw_p 15 (
  .a 2 3 <| .p (jQ 4) <| .e 1 5) ?_
 refine aw_r [(3, 4)] [(2, .slice (some ⟨4, 0, none⟩) 2 0)] [(0, ⟨[.slice (some ⟨1, 0, none⟩) r0.length 0, .slice (some ⟨2, 0, none⟩) r1.length 0], 24, false, 1⟩), (1, ⟨[], 29, false, 2⟩), (2, ⟨[], 29, false, 2⟩), (4, ⟨[.slice (some ⟨1, 0, none⟩) r0.length 0, .slice (some ⟨2, 0, none⟩) r1.length 0], 24, true, 1⟩)] [(2, .slice (some ⟨3, 0, none⟩) 2 0)] [(0, ⟨[.slice (some ⟨1, 0, none⟩) r0.length 0, .slice (some ⟨2, 0, none⟩) r1.length 0], 24, false, 1⟩), (1, ⟨[], 29, false, 2⟩), (2, ⟨[], 29, false, 2⟩), (3, ⟨[.slice (some ⟨1, 0, none⟩) r0.length 0, .slice (some ⟨2, 0, none⟩) r1.length 0], 24, true, 1⟩)] ?_ ⟨rfl, (.slice _ _ _ _ _ rfl), trivial⟩ ⟨rfl, ⟨rfl, rfl, rfl, (.cons (.slice _ _ _ _ _ rfl) (.cons (.slice _ _ _ _ _ rfl) .nil))⟩, rfl, ⟨rfl, rfl, rfl, (.flats kK)⟩, rfl, ⟨rfl, rfl, rfl, (.flats kK)⟩, rfl, ⟨rfl, rfl, rfl, (.cons (.slice _ _ _ _ _ rfl) (.cons (.slice _ _ _ _ _ rfl) .nil))⟩, trivial⟩
 exact qF<|qB [.slice (some ⟨3, 0, none⟩) 2 0] kK
theorem cloneh3 (r0 r1 r2 : List (Int × Int)) :
    AC Try.prog 50 4 ([.slice (some ⟨0, 0, none⟩) 3 0]) [(0, ⟨[.slice (some ⟨1, 0, none⟩) r0.length 0, .slice (some ⟨2, 0, none⟩) r1.length 0, .slice (some ⟨3, 0, none⟩) r2.length 0], 24, false, 1⟩), (1, ⟨[], 29, false, 2⟩), (2, ⟨[], 29, false, 2⟩), (3, ⟨[], 29, false, 2⟩)] (.slice (some ⟨4, 0, none⟩) 3 0) [(4, ⟨[.slice (some ⟨1, 0, none⟩) r0.length 0, .slice (some ⟨2, 0, none⟩) r1.length 0, .slice (some ⟨3, 0, none⟩) r2.length 0], 24, true, 1⟩)] := by
 refine qK Try.func50 (fun w0 W pin => ?_)
 refine aw_e 3 1 4<|qD 6 7<|aw_p 13 (
  .a 1 4 <| .p (bL (k := 0) (off := 0) (n := 3) (c := 0) kK oO) <| .nil _ _) ?_
 refine qP 27<|qH<|aw_p 15 (
  .a 2 4 <| .p (jQ 5) <| .e 1 6) ?_
 refine aw_r [(4, 5)] [(2, .slice (some ⟨5, 0, none⟩) 3 0)] [(0, ⟨[.slice (some ⟨1, 0, none⟩) r0.length 0, .slice (some ⟨2, 0, none⟩) r1.length 0, .slice (some ⟨3, 0, none⟩) r2.length 0], 24, false, 1⟩), (1, ⟨[], 29, false, 2⟩), (2, ⟨[], 29, false, 2⟩), (3, ⟨[], 29, false, 2⟩), (5, ⟨[.slice (some ⟨1, 0, none⟩) r0.length 0, .slice (some ⟨2, 0, none⟩) r1.length 0, .slice (some ⟨3, 0, none⟩) r2.length 0], 24, true, 1⟩)] [(2, .slice (some ⟨4, 0, none⟩) 3 0)] [(0, ⟨[.slice (some ⟨1, 0, none⟩) r0.length 0, .slice (some ⟨2, 0, none⟩) r1.length 0, .slice (some ⟨3, 0, none⟩) r2.length 0], 24, false, 1⟩), (1, ⟨[], 29, false, 2⟩), (2, ⟨[], 29, false, 2⟩), (3, ⟨[], 29, false, 2⟩), (4, ⟨[.slice (some ⟨1, 0, none⟩) r0.length 0, .slice (some ⟨2, 0, none⟩) r1.length 0, .slice (some ⟨3, 0, none⟩) r2.length 0], 24, true, 1⟩)] ?_ ⟨rfl, (.slice _ _ _ _ _ rfl), trivial⟩ ⟨rfl, ⟨rfl, rfl, rfl, (.cons (.slice _ _ _ _ _ rfl) (.cons (.slice _ _ _ _ _ rfl) (.cons (.slice _ _ _ _ _ rfl) .nil)))⟩, rfl, ⟨rfl, rfl, rfl, (.flats kK)⟩, rfl, ⟨rfl, rfl, rfl, (.flats kK)⟩, rfl, ⟨rfl, rfl, rfl, (.flats kK)⟩, rfl, ⟨rfl, rfl, rfl, (.cons (.slice _ _ _ _ _ rfl) (.cons (.slice _ _ _ _ _ rfl) (.cons (.slice _ _ _ _ _ rfl) .nil)))⟩, trivial⟩
 exact qF<|qB [.slice (some ⟨4, 0, none⟩) 3 0] kK
theorem cloneh4 (r0 r1 r2 r3 : List (Int × Int)) :
    AC Try.prog 50 5 ([.slice (some ⟨0, 0, none⟩) 4 0]) [(0, ⟨[.slice (some ⟨1, 0, none⟩) r0.length 0, .slice (some ⟨2, 0, none⟩) r1.length 0, .slice (some ⟨3, 0, none⟩) r2.length 0, .slice (some ⟨4, 0, none⟩) r3.length 0], 24, false, 1⟩), (1, ⟨[], 29, false, 2⟩), (2, ⟨[], 29, false, 2⟩), (3, ⟨[], 29, false, 2⟩), (4, ⟨[], 29, false, 2⟩)] (.slice (some ⟨5, 0, none⟩) 4 0) [(5, ⟨[.slice (some ⟨1, 0, none⟩) r0.length 0, .slice (some ⟨2, 0, none⟩) r1.length 0, .slice (some ⟨3, 0, none⟩) r2.length 0, .slice (some ⟨4, 0, none⟩) r3.length 0], 24, true, 1⟩)] := by
 refine qK Try.func50 (fun w0 W pin => ?_)
 refine aw_e 3 1 5<|qD 6 7<|aw_p 13 (
  .a 1 5 <| .p (bL (k := 0) (off := 0) (n := 4) (c := 0) kK oO) <| .nil _ _) ?_
 refine qP 27<|qH<|aw_p 15 (
  .a 2 5 <| .p (jQ 6) <| .e 1 7) ?_
 refine aw_r [(5, 6)] [(2, .slice (some ⟨6, 0, none⟩) 4 0)] [(0, ⟨[.slice (some ⟨1, 0, none⟩) r0.length 0, .slice (some ⟨2, 0, none⟩) r1.length 0, .slice (some ⟨3, 0, none⟩) r2.length 0, .slice (some ⟨4, 0, none⟩) r3.length 0], 24, false, 1⟩), (1, ⟨[], 29, false, 2⟩), (2, ⟨[], 29, false, 2⟩), (3, ⟨[], 29, false, 2⟩), (4, ⟨[], 29, false, 2⟩), (6, ⟨[.slice (some ⟨1, 0, none⟩) r0.length 0, .slice (some ⟨2, 0, none⟩) r1.length 0, .slice (some ⟨3, 0, none⟩) r2.length 0, .slice (some ⟨4, 0, none⟩) r3.length 0], 24, true, 1⟩)] [(2, .slice (some ⟨5, 0, none⟩) 4 0)] [(0, ⟨[.slice (some ⟨1, 0, none⟩) r0.length 0, .slice (some ⟨2, 0, none⟩) r1.length 0, .slice (some ⟨3, 0, none⟩) r2.length 0, .slice (some ⟨4, 0, none⟩) r3.length 0], 24, false, 1⟩), (1, ⟨[], 29, false, 2⟩), (2, ⟨[], 29, false, 2⟩), (3, ⟨[], 29, false, 2⟩), (4, ⟨[], 29, false, 2⟩), (5, ⟨[.slice (some ⟨1, 0, none⟩) r0.length 0, .slice (some ⟨2, 0, none⟩) r1.length 0, .slice (some ⟨3, 0, none⟩) r2.length 0, .slice (some ⟨4, 0, none⟩) r3.length 0], 24, true, 1⟩)] ?_ ⟨rfl, (.slice _ _ _ _ _ rfl), trivial⟩ ⟨rfl, ⟨rfl, rfl, rfl, (.cons (.slice _ _ _ _ _ rfl) (.cons (.slice _ _ _ _ _ rfl) (.cons (.slice _ _ _ _ _ rfl) (.cons (.slice _ _ _ _ _ rfl) .nil))))⟩, rfl, ⟨rfl, rfl, rfl, (.flats kK)⟩, rfl, ⟨rfl, rfl, rfl, (.flats kK)⟩, rfl, ⟨rfl, rfl, rfl, (.flats kK)⟩, rfl, ⟨rfl, rfl, rfl, (.flats kK)⟩, rfl, ⟨rfl, rfl, rfl, (.cons (.slice _ _ _ _ _ rfl) (.cons (.slice _ _ _ _ _ rfl) (.cons (.slice _ _ _ _ _ rfl) (.cons (.slice _ _ _ _ _ rfl) .nil))))⟩, trivial⟩
 exact qF<|qB [.slice (some ⟨5, 0, none⟩) 4 0] kK
theorem cloneh_ok (X : List Row) (h : 1 ≤ X.length ∧ X.length ≤ 4) : AC Try.prog 50 (1 + X.length) [.slice (some ⟨0, 0, none⟩) X.length 0] (cloP 24 29 X) (.slice (some ⟨1 + X.length, 0, none⟩) X.length 0) [(1 + X.length, ⟨hds (· + 1) X, 24, true, 1⟩)] := by
  match X, h with
  | [r0], _ => exact cloneh1 r0
  | [r0, r1], _ => exact cloneh2 r0 r1
  | [r0, r1, r2], _ => exact cloneh3 r0 r1 r2
  | [r0, r1, r2, r3], _ => exact cloneh4 r0 r1 r2 r3
  | [], h => simp at h
  | _ :: _ :: _ :: _ :: _ :: _, h => simp at h
end Go.Proofs.Ytadifmimefmcnaa.Am
namespace Go.Proofs.Ytadifmimefmcnaa.Am.Sp
def lim (m n : Int) : Int := max (-m) (min n m)
def cmp (a b : Int) : Int := if a < b then -1 else if b < a then 1 else 0
def sgn (a : Int) : Int := if a < 0 then -1 else if 0 < a then 1 else 0
theorem jP {m : Int} (hm : 0 ≤ m) (n : Int) : -m ≤ lim m n ∧ lim m n ≤ m := by unfold lim; omega
theorem wU (x : Int) {n : Int} (h : 0 < n) : 0 ≤ x % n ∧ x % n < n := ⟨Int.emod_nonneg x (by omega), Int.emod_lt_of_pos x h⟩
theorem tmod_lo {x n : Int} (hn : 0 < n) : -n < Int.tmod x n := by
  have h1 := Int.tmod_eq_emod (a := x) (b := n)
  have := wU x hn
  split at h1 <;> omega
theorem lQ {x n : Int} (hn : 0 < n) (h : Int.tmod x n < 0) : Int.tmod x n + n = x % n := by
  have h1 := Int.tmod_eq_emod (a := x) (b := n)
  have := wU x hn
  split at h1 <;> omega
theorem lP {x n : Int} (hn : 0 < n) (h : ¬ Int.tmod x n < 0) : Int.tmod x n = x % n := by
  have h1 := Int.tmod_eq_emod (a := x) (b := n)
  have := wU x hn
  split at h1 <;> omega
theorem yV {a b A B : Int} (h1 : -A ≤ a) (h2 : a ≤ A) (h3 : -B ≤ b) (h4 : b ≤ B) : -(A * B) ≤ a * b ∧ a * b ≤ A * B := by
  have hA : 0 ≤ A := by omega
  have hB : 0 ≤ B := by omega
  have e1 : 0 ≤ (A - a) * (B - b) := Int.mul_nonneg (by omega) (by omega)
  have e2 : 0 ≤ (A + a) * (B + b) := Int.mul_nonneg (by omega) (by omega)
  have e3 : 0 ≤ (A - a) * (B + b) := Int.mul_nonneg (by omega) (by omega)
  have e4 : 0 ≤ (A + a) * (B - b) := Int.mul_nonneg (by omega) (by omega)
  constructor <;> grind
def crs (ax ay bx b_y cx cy : Int) : Int := (bx - ax) * (cy - ay) - (b_y - ay) * (cx - ax)
def dot (ax ay bx b_y cx cy : Int) : Int := (bx - ax) * (cx - ax) + (b_y - ay) * (cy - ay)
theorem jR {m n : Int} (h1 : -m ≤ n) (h2 : n ≤ m) : lim m n = n := by unfold lim; omega
theorem cmp_zero (a b : Int) : cmp a b = 0 ↔ a = b := by unfold cmp; (repeat' split) <;> omega
theorem qC2 (a b : Int) : -1 ≤ cmp a b ∧ cmp a b ≤ 1 := by unfold cmp; (repeat' split) <;> omega
theorem cmp_le (a b : Int) : cmp a b ≤ 0 ↔ a ≤ b := by unfold cmp; (repeat' split) <;> omega
end Go.Proofs.Ytadifmimefmcnaa.Am.Sp
namespace Go.Proofs.Ytadifmimefmcnaa.Am.Sp
def onb (ax ay bx b_y px py : Int) : Bool := cmp (crs ax ay bx b_y px py) 0 == 0 && decide (dot px py ax ay bx b_y ≤ 0)
theorem tC (ax ay bx b_y cx cy : Int) : crs ax ay bx b_y cx cy = 0 - crs bx b_y ax ay cx cy := by unfold crs; grind
theorem dot_comm (ax ay bx b_y cx cy : Int) : dot ax ay bx b_y cx cy = dot ax ay cx cy bx b_y := by unfold dot; grind
theorem lagrange (ax ay bx b_y cx cy : Int) : crs ax ay bx b_y cx cy * crs ax ay bx b_y cx cy + dot ax ay bx b_y cx cy * dot ax ay bx b_y cx cy = dot ax ay bx b_y bx b_y * dot ax ay cx cy cx cy := by
  unfold crs dot
  generalize bx - ax = u; generalize b_y - ay = v; generalize cx - ax = s; generalize cy - ay = t
  grind
theorem qBK {ax ay bx b_y cx cy M : Int} (_hM : 0 ≤ M) (h : (-M ≤ ax ∧ ax ≤ M) ∧ (-M ≤ ay ∧ ay ≤ M) ∧ (-M ≤ bx ∧ bx ≤ M) ∧ (-M ≤ b_y ∧ b_y ≤ M) ∧ (-M ≤ cx ∧ cx ≤ M) ∧ (-M ≤ cy ∧ cy ≤ M)) :
    (-(2 * (2 * M * (2 * M))) ≤ crs ax ay bx b_y cx cy ∧ crs ax ay bx b_y cx cy ≤ 2 * (2 * M * (2 * M))) ∧ (-(2 * (2 * M * (2 * M))) ≤ dot ax ay bx b_y cx cy ∧ dot ax ay bx b_y cx cy ≤ 2 * (2 * M * (2 * M))) := by
  obtain ⟨h1, h2, h3, h4, h5, h6⟩ := h
  unfold crs dot
  have p1 := yV (a := bx - ax) (b := cy - ay) (A := 2 * M) (B := 2 * M) (by omega) (by omega) (by omega) (by omega)
  have p2 := yV (a := b_y - ay) (b := cx - ax) (A := 2 * M) (B := 2 * M) (by omega) (by omega) (by omega) (by omega)
  have p3 := yV (a := bx - ax) (b := cx - ax) (A := 2 * M) (B := 2 * M) (by omega) (by omega) (by omega) (by omega)
  have p4 := yV (a := b_y - ay) (b := cy - ay) (A := 2 * M) (B := 2 * M) (by omega) (by omega) (by omega) (by omega)
  omega
theorem yC (a : Int) : 0 ≤ a * a := by
  rcases Int.le_total 0 a with q | q
  · exact Int.mul_nonneg q q
  · exact Int.mul_nonneg_of_nonpos_of_nonpos q q
theorem qEJ (ax ay bx b_y : Int) : 0 ≤ dot ax ay bx b_y bx b_y := by
  unfold dot
  have := yC (bx - ax); have := yC (b_y - ay); omega
theorem onb_iff (ax ay bx b_y px py : Int) : onb ax ay bx b_y px py = true ↔ crs ax ay bx b_y px py = 0 ∧ dot px py ax ay bx b_y ≤ 0 := by
  unfold onb
  rw [Bool.and_eq_true, beq_iff_eq, cmp_zero, decide_eq_true_iff]
theorem mZ (ax ay bx b_y px py : Int) : onb ax ay bx b_y px py = onb bx b_y ax ay px py := by
  rw [Bool.eq_iff_iff, onb_iff, onb_iff, tC ax, dot_comm px]
  omega
theorem onb_a (ax ay bx b_y : Int) : onb ax ay bx b_y ax ay = true := by
  rw [onb_iff]; unfold crs dot; grind
theorem onb_b (ax ay bx b_y : Int) : onb ax ay bx b_y bx b_y = true := by
  rw [onb_iff]; unfold crs dot; grind
def pw (j : Nat) : Int := 2 ^ j
def tx (x y s r u : Int) : Int := if u = 1 then x else if r = 1 then s - 1 - y else y
def ty (x y s r u : Int) : Int := if u = 1 then y else if r = 1 then s - 1 - x else x
def dg (r u : Int) : Int := if r = 0 then (if u = 0 then 0 else 1) else if u = 0 then 3 else 2
def idx : Nat → Int → Int → Int
  | 0, _, _ => 0
  | j + 1, x, y => pw j * pw j * dg (x / pw j) (y / pw j) + idx j (tx (x % pw j) (y % pw j) (pw j) (x / pw j) (y / pw j)) (ty (x % pw j) (y % pw j) (pw j) (x / pw j) (y / pw j))
def index (x y : Int) : Int := idx 22 (lim 1048576 x + 1048576) (lim 1048576 y + 1048576)
def okb (x y : Int) : Bool := (x == lim 1048576 x) && ((y == lim 1048576 y) && true)
theorem okb_iff (x y : Int) : okb x y = true ↔ (-1048576 ≤ x ∧ x ≤ 1048576) ∧ (-1048576 ≤ y ∧ y ≤ 1048576) := by
  unfold okb lim
  rw [Bool.and_eq_true, Bool.and_eq_true, beq_iff_eq, beq_iff_eq]
  simp only [and_true]
  omega
end Go.Proofs.Ytadifmimefmcnaa.Am.Sp
namespace Go.Proofs.Ytadifmimefmcnaa.Am.Sp
def mn (a b : Int) : Int := if b < a then b else a
def mx (a b : Int) : Int := if b > a then b else a
end Go.Proofs.Ytadifmimefmcnaa.Am.Sp
namespace Go.Proofs.Ytadifmimefmcnaa.Am
open Go Go.Proofs
theorem qAH (n m : Int) (h0 : 0 ≤ m) (h1 : m ≤ 4611686018427387904) :
    AC Try.prog 101 0 ([.int .i64 n, .int .i64 m]) [] (.int .i64 (Sp.lim m n)) [] := by
 refine qK Try.func101 (fun w0 W pin => ?_)
 refine aw_e 3 1 1<|aw_p 7 (
  .a 1 1 <| .p (qJ (0 - m) (wrap_i64 oO oO) .i64) <| .e 5 1) ?_
 exact qF<|qB [.int .i64 (if (if m < n then m else n) > (0 - m) then (if m < n then m else n) else (0 - m))] (show (.int .i64 (if (if m < n then m else n) > (0 - m) then (if m < n then m else n) else (0 - m)) : Value) = (.int .i64 (Sp.lim m n)) from (congrArg (Value.int .i64) (show (if (if m < n then m else n) > (0 - m) then (if m < n then m else n) else (0 - m)) = (Sp.lim m n) from by (first | rfl | (simp only [Sp.lim, Sp.cmp, Sp.sgn]; (repeat' split) <;> omega)))))
theorem j6 (x y : Int) :
    AC Try.prog 56 0 ([.agg #[.int .i64 x, .int .i64 y]]) [] (.agg #[.int .i64 (Sp.lim 1048576 x), .int .i64 (Sp.lim 1048576 y)]) [] := by
 refine qK Try.func56 (fun w0 W pin => ?_)
 refine aw_e 3 2 1<|aw_d 7 (
  .a 2 3 <| .p (qC (qAH x 1048576 dD dD)) <| .a 2 3 <| .p (qC (qAH y 1048576 dD dD)) <| .e 2 3) ?_
 exact qF<|qB [.agg #[.int .i64 (Sp.lim 1048576 x), .int .i64 (Sp.lim 1048576 y)]] kK
theorem pok_ok (x y : Int) :
    AC Try.prog 64 0 ([.agg #[.int .i64 x, .int .i64 y]]) [] (.bool ((x == (Sp.lim 1048576 x)) && ((y == (Sp.lim 1048576 y)) && true))) [] := by
 refine qK Try.func64 (fun w0 W pin => ?_)
 refine aw_e 3 2 1<|aw_d 7 (
  .a 2 2 <| .p (qC (j6 x y)) <| .p (qV ((x == (Sp.lim 1048576 x)) && ((y == (Sp.lim 1048576 y)) && true)) (rfl)) <| .e 1 2) ?_
 exact qF<|qB [.bool ((x == (Sp.lim 1048576 x)) && ((y == (Sp.lim 1048576 y)) && true))] kK
theorem qB2 (x : Int) :
    AC Try.prog 116 0 ([.int .i64 x]) [] (.bool false) [] := by
 refine qK Try.func116 (fun w0 W pin => ?_)
 refine aw_e 3 1 1<|aw_p 7 (
  .a 2 1 <| .p (qN false ((show (x != x) = false from by simp))) <| .e 1 1) ?_
 exact qF<|qB [.bool false] kK
theorem qF5 (x y : Int) :
    AC Try.prog 79 0 ([.int .i64 x, .int .i64 y]) [] (.int .i64 (Sp.cmp x y)) [] := by
 refine qK Try.func79 (fun w0 W pin => ?_)
 refine aw_e 3 1 1<|aw_p 7 (
  .a 1 1 <| .p (qC (qB2 x)) <| .e 1 1) ?_
 refine aw_p 15 (
  .a 1 1 <| .p (qC (qB2 y)) <| .e 1 1) ?_
 refine qD 30 31<|aw_e 61 1 1<|qP 123<|qH<|qD 62 63<|aw_e 125 1 1<|qP 251<|qH<|qD 126 127<|aw_e 253 3 1<|qY 506 507 (decide (x < y)) (fun h1 => ?_) (fun h1 => ?_)
 ·have h1p : ((x < y)) := pB h1
  exact aw_e 1013 1 1<|qF<|qB [.int .i64 (-1)] (show (.int .i64 (-1) : Value) = (.int .i64 (Sp.cmp x y)) from (congrArg (Value.int .i64) (show (-1) = (Sp.cmp x y) from by (simp only [decide_eq_true_eq, decide_eq_false_iff_not] at *; simp only [Sp.lim, Sp.cmp, Sp.sgn]; (repeat' split) <;> omega))))
 have h1p : ¬ ((x < y)) := pB h1
 refine qH<|qD 254 255<|aw_e 509 3 1<|qY 1018 1019 (decide (x > y)) (fun h2 => ?_) (fun h2 => ?_)
 ·have h2p : ((x > y)) := pB h2
  exact aw_e 2037 1 1<|qF<|qB [.int .i64 1] (show (.int .i64 1 : Value) = (.int .i64 (Sp.cmp x y)) from (congrArg (Value.int .i64) (show 1 = (Sp.cmp x y) from by (simp only [decide_eq_true_eq, decide_eq_false_iff_not] at *; simp only [Sp.lim, Sp.cmp, Sp.sgn]; (repeat' split) <;> omega))))
 have h2p : ¬ ((x > y)) := pB h2
 exact qH<|aw_e 511 1 1<|qF<|qB [.int .i64 0] (show (.int .i64 0 : Value) = (.int .i64 (Sp.cmp x y)) from (congrArg (Value.int .i64) (show 0 = (Sp.cmp x y) from by (simp only [decide_eq_true_eq, decide_eq_false_iff_not] at *; simp only [Sp.lim, Sp.cmp, Sp.sgn]; (repeat' split) <;> omega))))
theorem dR (x n : Int) (h0 : 0 < n) (hz : n ≤ 9223372036854775807) :
    AC Try.prog 15 0 ([.int .i64 x, .int .i64 n]) [] (.int .i64 (x % n)) [] := by
 have hlo := Sp.tmod_lo (x := x) h0
 refine qK Try.func15 (fun w0 W pin => ?_)
 refine aw_e 3 1 1<|aw_p 7 (
  .a 2 1 <| .p (n4 (t := 3) (t2 := 3) (x := .tmp 5) (y := .tmp 6) (k := .i64) (a := x) (b := n) kK kK kK oO) <| .e 1 1) ?_
 refine qD 14 15<|aw_e 29 2 1<|qY 58 59 (decide ((Int.tmod x n) < 0)) (fun h1 => ?_) (fun h1 => ?_)
 ·have h1p : (((Int.tmod x n) < 0)) := pB h1
  refine qW (
   .a 2 1 <| .p (qJ ((Int.tmod x n) + n) (wrap_i64 oO oO) .i64) <| .e 1 1) ?_
  exact aw_e 31 2 1<|qF<|qB [.int .i64 ((Int.tmod x n) + n)] (show (.int .i64 ((Int.tmod x n) + n) : Value) = (.int .i64 (x % n)) from (congrArg (Value.int .i64) (show ((Int.tmod x n) + n) = (x % n) from by (first | exact Sp.lQ h0 aA | exact Sp.lP h0 oO))))
 have h1p : ¬ (((Int.tmod x n) < 0)) := pB h1
 exact qH<|aw_e 31 2 1<|qF<|qB [.int .i64 (Int.tmod x n)] (show (.int .i64 (Int.tmod x n) : Value) = (.int .i64 (x % n)) from (congrArg (Value.int .i64) (show (Int.tmod x n) = (x % n) from by (first | exact Sp.lQ h0 aA | exact Sp.lP h0 oO))))
theorem eZ (ax ay bx b_y : Int) :
    AC Try.prog 117 0 ([.agg #[.int .i64 ax, .int .i64 ay], .agg #[.int .i64 bx, .int .i64 b_y]]) [] (.agg #[.int .i64 (Sp.lim 1048576 bx - Sp.lim 1048576 ax), .int .i64 (Sp.lim 1048576 b_y - Sp.lim 1048576 ay)]) [] := by
 have q1 := Sp.jP (m := 1048576) dD ax; have q2 := Sp.jP (m := 1048576) dD ay; have q3 := Sp.jP (m := 1048576) dD bx; have q4 := Sp.jP (m := 1048576) dD b_y
 refine qK Try.func117 (fun w0 W pin => ?_)
 refine aw_e 3 3 1<|aw_d 7 (
  .a 1 4 <| .p (qC (j6 ax ay)) <| .a 1 4 <| .p (qC (j6 bx b_y)) <| .e 2 4) ?_
 refine aw_p 15 (
  .a 4 4 <| .p (qJ ((Sp.lim 1048576 bx) - (Sp.lim 1048576 ax)) (wrap_i64 oO oO) .i64) <| .a 4 4 <| .p (qJ ((Sp.lim 1048576 b_y) - (Sp.lim 1048576 ay)) (wrap_i64 oO oO) .i64) <| .e 2 4) ?_
 exact qF<|qB [.agg #[.int .i64 ((Sp.lim 1048576 bx) - (Sp.lim 1048576 ax)), .int .i64 ((Sp.lim 1048576 b_y) - (Sp.lim 1048576 ay))]] (show (.agg #[.int .i64 ((Sp.lim 1048576 bx) - (Sp.lim 1048576 ax)), .int .i64 ((Sp.lim 1048576 b_y) - (Sp.lim 1048576 ay))] : Value) = (.agg #[.int .i64 (Sp.lim 1048576 bx - Sp.lim 1048576 ax), .int .i64 (Sp.lim 1048576 b_y - Sp.lim 1048576 ay)]) from (congrArg (fun z : List Value => Value.agg z.toArray) (jB (congrArg (Value.int .i64) (show ((Sp.lim 1048576 bx) - (Sp.lim 1048576 ax)) = (Sp.lim 1048576 bx - Sp.lim 1048576 ax) from by rfl)) (jB (congrArg (Value.int .i64) (show ((Sp.lim 1048576 b_y) - (Sp.lim 1048576 ay)) = (Sp.lim 1048576 b_y - Sp.lim 1048576 ay) from by rfl)) rfl))))
theorem qBL (ax ay bx b_y cx cy : Int) :
    AC Try.prog 80 0 ([.agg #[.int .i64 ax, .int .i64 ay], .agg #[.int .i64 bx, .int .i64 b_y], .agg #[.int .i64 cx, .int .i64 cy]]) [] (.int .i64 (Sp.crs (Sp.lim 1048576 ax) (Sp.lim 1048576 ay) (Sp.lim 1048576 bx) (Sp.lim 1048576 b_y) (Sp.lim 1048576 cx) (Sp.lim 1048576 cy))) [] := by
 have qax := Sp.jP (m := 1048576) dD ax; have qay := Sp.jP (m := 1048576) dD ay; have qbx := Sp.jP (m := 1048576) dD bx; have qb_y := Sp.jP (m := 1048576) dD b_y; have qcx := Sp.jP (m := 1048576) dD cx; have qcy := Sp.jP (m := 1048576) dD cy; have p0 := Sp.yV (a := Sp.lim 1048576 bx - Sp.lim 1048576 ax) (b := Sp.lim 1048576 cy - Sp.lim 1048576 ay) (A := 2097152) (B := 2097152) oO oO oO oO; have p1 := Sp.yV (a := Sp.lim 1048576 b_y - Sp.lim 1048576 ay) (b := Sp.lim 1048576 cx - Sp.lim 1048576 ax) (A := 2097152) (B := 2097152) oO oO oO oO
 refine qK Try.func80 (fun w0 W pin => ?_)
 refine aw_e 3 4 1<|aw_d 7 (
  .a 2 4 <| .p (qC (eZ ax ay bx b_y)) <| .a 2 4 <| .p (qC (eZ ax ay cx cy)) <| .e 4 4) ?_
 refine aw_p 15 (
  .a 4 6 <| .p (qJ ((Sp.lim 1048576 bx - Sp.lim 1048576 ax) * (Sp.lim 1048576 cy - Sp.lim 1048576 ay)) (wrap_i64 oO oO) .i64) <| .a 4 6 <| .p (qJ ((Sp.lim 1048576 b_y - Sp.lim 1048576 ay) * (Sp.lim 1048576 cx - Sp.lim 1048576 ax)) (wrap_i64 oO oO) .i64) <|
  .p (qJ (((Sp.lim 1048576 bx - Sp.lim 1048576 ax) * (Sp.lim 1048576 cy - Sp.lim 1048576 ay)) - ((Sp.lim 1048576 b_y - Sp.lim 1048576 ay) * (Sp.lim 1048576 cx - Sp.lim 1048576 ax))) (wrap_i64 oO oO) .i64) <| .e 1 6) ?_
 refine aw_w [(6, .int .i64 (((Sp.lim 1048576 bx - Sp.lim 1048576 ax) * (Sp.lim 1048576 cy - Sp.lim 1048576 ay)) - ((Sp.lim 1048576 b_y - Sp.lim 1048576 ay) * (Sp.lim 1048576 cx - Sp.lim 1048576 ax))))] [] ?_
 exact qF<|qB [.int .i64 (((Sp.lim 1048576 bx - Sp.lim 1048576 ax) * (Sp.lim 1048576 cy - Sp.lim 1048576 ay)) - ((Sp.lim 1048576 b_y - Sp.lim 1048576 ay) * (Sp.lim 1048576 cx - Sp.lim 1048576 ax)))] (show (.int .i64 (((Sp.lim 1048576 bx - Sp.lim 1048576 ax) * (Sp.lim 1048576 cy - Sp.lim 1048576 ay)) - ((Sp.lim 1048576 b_y - Sp.lim 1048576 ay) * (Sp.lim 1048576 cx - Sp.lim 1048576 ax))) : Value) = (.int .i64 (Sp.crs (Sp.lim 1048576 ax) (Sp.lim 1048576 ay) (Sp.lim 1048576 bx) (Sp.lim 1048576 b_y) (Sp.lim 1048576 cx) (Sp.lim 1048576 cy))) from (congrArg (Value.int .i64) (show (((Sp.lim 1048576 bx - Sp.lim 1048576 ax) * (Sp.lim 1048576 cy - Sp.lim 1048576 ay)) - ((Sp.lim 1048576 b_y - Sp.lim 1048576 ay) * (Sp.lim 1048576 cx - Sp.lim 1048576 ax))) = (Sp.crs (Sp.lim 1048576 ax) (Sp.lim 1048576 ay) (Sp.lim 1048576 bx) (Sp.lim 1048576 b_y) (Sp.lim 1048576 cx) (Sp.lim 1048576 cy)) from by rfl)))
theorem dot_ok (ax ay bx b_y cx cy : Int) :
    AC Try.prog 115 0 ([.agg #[.int .i64 ax, .int .i64 ay], .agg #[.int .i64 bx, .int .i64 b_y], .agg #[.int .i64 cx, .int .i64 cy]]) [] (.int .i64 (Sp.dot (Sp.lim 1048576 ax) (Sp.lim 1048576 ay) (Sp.lim 1048576 bx) (Sp.lim 1048576 b_y) (Sp.lim 1048576 cx) (Sp.lim 1048576 cy))) [] := by
 have qax := Sp.jP (m := 1048576) dD ax; have qay := Sp.jP (m := 1048576) dD ay; have qbx := Sp.jP (m := 1048576) dD bx; have qb_y := Sp.jP (m := 1048576) dD b_y; have qcx := Sp.jP (m := 1048576) dD cx; have qcy := Sp.jP (m := 1048576) dD cy; have p0 := Sp.yV (a := Sp.lim 1048576 bx - Sp.lim 1048576 ax) (b := Sp.lim 1048576 cx - Sp.lim 1048576 ax) (A := 2097152) (B := 2097152) oO oO oO oO; have p1 := Sp.yV (a := Sp.lim 1048576 b_y - Sp.lim 1048576 ay) (b := Sp.lim 1048576 cy - Sp.lim 1048576 ay) (A := 2097152) (B := 2097152) oO oO oO oO
 refine qK Try.func115 (fun w0 W pin => ?_)
 refine aw_e 3 4 1<|aw_d 7 (
  .a 2 4 <| .p (qC (eZ ax ay bx b_y)) <| .a 2 4 <| .p (qC (eZ ax ay cx cy)) <| .e 4 4) ?_
 refine aw_p 15 (
  .a 4 6 <| .p (qJ ((Sp.lim 1048576 bx - Sp.lim 1048576 ax) * (Sp.lim 1048576 cx - Sp.lim 1048576 ax)) (wrap_i64 oO oO) .i64) <| .a 4 6 <| .p (qJ ((Sp.lim 1048576 b_y - Sp.lim 1048576 ay) * (Sp.lim 1048576 cy - Sp.lim 1048576 ay)) (wrap_i64 oO oO) .i64) <|
  .p (qJ (((Sp.lim 1048576 bx - Sp.lim 1048576 ax) * (Sp.lim 1048576 cx - Sp.lim 1048576 ax)) + ((Sp.lim 1048576 b_y - Sp.lim 1048576 ay) * (Sp.lim 1048576 cy - Sp.lim 1048576 ay))) (wrap_i64 oO oO) .i64) <| .e 1 6) ?_
 refine aw_w [(6, .int .i64 (((Sp.lim 1048576 bx - Sp.lim 1048576 ax) * (Sp.lim 1048576 cx - Sp.lim 1048576 ax)) + ((Sp.lim 1048576 b_y - Sp.lim 1048576 ay) * (Sp.lim 1048576 cy - Sp.lim 1048576 ay))))] [] ?_
 exact qF<|qB [.int .i64 (((Sp.lim 1048576 bx - Sp.lim 1048576 ax) * (Sp.lim 1048576 cx - Sp.lim 1048576 ax)) + ((Sp.lim 1048576 b_y - Sp.lim 1048576 ay) * (Sp.lim 1048576 cy - Sp.lim 1048576 ay)))] (show (.int .i64 (((Sp.lim 1048576 bx - Sp.lim 1048576 ax) * (Sp.lim 1048576 cx - Sp.lim 1048576 ax)) + ((Sp.lim 1048576 b_y - Sp.lim 1048576 ay) * (Sp.lim 1048576 cy - Sp.lim 1048576 ay))) : Value) = (.int .i64 (Sp.dot (Sp.lim 1048576 ax) (Sp.lim 1048576 ay) (Sp.lim 1048576 bx) (Sp.lim 1048576 b_y) (Sp.lim 1048576 cx) (Sp.lim 1048576 cy))) from (congrArg (Value.int .i64) (show (((Sp.lim 1048576 bx - Sp.lim 1048576 ax) * (Sp.lim 1048576 cx - Sp.lim 1048576 ax)) + ((Sp.lim 1048576 b_y - Sp.lim 1048576 ay) * (Sp.lim 1048576 cy - Sp.lim 1048576 ay))) = (Sp.dot (Sp.lim 1048576 ax) (Sp.lim 1048576 ay) (Sp.lim 1048576 bx) (Sp.lim 1048576 b_y) (Sp.lim 1048576 cx) (Sp.lim 1048576 cy)) from by rfl)))
theorem sE (ax ay bx b_y cx cy : Int) :
    AC Try.prog 35 0 ([.agg #[.int .i64 ax, .int .i64 ay], .agg #[.int .i64 bx, .int .i64 b_y], .agg #[.int .i64 cx, .int .i64 cy]]) [] (.int .i64 (Sp.cmp (Sp.crs (Sp.lim 1048576 ax) (Sp.lim 1048576 ay) (Sp.lim 1048576 bx) (Sp.lim 1048576 b_y) (Sp.lim 1048576 cx) (Sp.lim 1048576 cy)) 0)) [] := by
 refine qK Try.func35 (fun w0 W pin => ?_)
 refine aw_e 3 4 1<|aw_p 7 (
  .a 3 4 <| .p (qC (qBL ax ay bx b_y cx cy)) <| .p (qC (qF5 (Sp.crs (Sp.lim 1048576 ax) (Sp.lim 1048576 ay) (Sp.lim 1048576 bx) (Sp.lim 1048576 b_y) (Sp.lim 1048576 cx) (Sp.lim 1048576 cy)) 0)) <| .e 1 4) ?_
 exact qF<|qB [.int .i64 (Sp.cmp (Sp.crs (Sp.lim 1048576 ax) (Sp.lim 1048576 ay) (Sp.lim 1048576 bx) (Sp.lim 1048576 b_y) (Sp.lim 1048576 cx) (Sp.lim 1048576 cy)) 0)] kK
theorem sq_ok (ax ay bx b_y : Int) :
    AC Try.prog 77 0 ([.agg #[.int .i64 ax, .int .i64 ay], .agg #[.int .i64 bx, .int .i64 b_y]]) [] (.int .i64 (Sp.dot (Sp.lim 1048576 ax) (Sp.lim 1048576 ay) (Sp.lim 1048576 bx) (Sp.lim 1048576 b_y) (Sp.lim 1048576 bx) (Sp.lim 1048576 b_y))) [] := by
 refine qK Try.func77 (fun w0 W pin => ?_)
 refine aw_e 3 3 1<|aw_p 7 (
  .a 3 3 <| .p (qC (dot_ok ax ay bx b_y bx b_y)) <| .e 1 3) ?_
 exact qF<|qB [.int .i64 (Sp.dot (Sp.lim 1048576 ax) (Sp.lim 1048576 ay) (Sp.lim 1048576 bx) (Sp.lim 1048576 b_y) (Sp.lim 1048576 bx) (Sp.lim 1048576 b_y))] kK
theorem on_ok (ax ay bx b_y px py : Int) :
    AC Try.prog 78 0 ([.agg #[.int .i64 ax, .int .i64 ay], .agg #[.int .i64 bx, .int .i64 b_y], .agg #[.int .i64 px, .int .i64 py]]) [] (.bool (Sp.onb (Sp.lim 1048576 ax) (Sp.lim 1048576 ay) (Sp.lim 1048576 bx) (Sp.lim 1048576 b_y) (Sp.lim 1048576 px) (Sp.lim 1048576 py))) [] := by
 refine qK Try.func78 (fun w0 W pin => ?_)
 refine aw_e 3 4 1 ?_
 rcases Bool.eq_false_or_eq_true ((Sp.cmp (Sp.crs (Sp.lim 1048576 ax) (Sp.lim 1048576 ay) (Sp.lim 1048576 bx) (Sp.lim 1048576 b_y) (Sp.lim 1048576 px) (Sp.lim 1048576 py)) 0) == 0) with h1 | h1
 ·have h1p : (((Sp.cmp (Sp.crs (Sp.lim 1048576 ax) (Sp.lim 1048576 ay) (Sp.lim 1048576 bx) (Sp.lim 1048576 b_y) (Sp.lim 1048576 px) (Sp.lim 1048576 py)) 0) = 0)) := pB h1
  refine aw_p 7 (
   .a 3 4 <| .p (qC (sE ax ay bx b_y px py)) <| .p (qN true (h1)) <| .a 4 4 <| .p (qC (dot_ok px py ax ay bx b_y)) <| .e 3 4) ?_
  exact qF<|qB [.bool (decide ((Sp.dot (Sp.lim 1048576 px) (Sp.lim 1048576 py) (Sp.lim 1048576 ax) (Sp.lim 1048576 ay) (Sp.lim 1048576 bx) (Sp.lim 1048576 b_y)) ≤ 0))] (show (.bool (decide ((Sp.dot (Sp.lim 1048576 px) (Sp.lim 1048576 py) (Sp.lim 1048576 ax) (Sp.lim 1048576 ay) (Sp.lim 1048576 bx) (Sp.lim 1048576 b_y)) ≤ 0)) : Value) = (.bool (Sp.onb (Sp.lim 1048576 ax) (Sp.lim 1048576 ay) (Sp.lim 1048576 bx) (Sp.lim 1048576 b_y) (Sp.lim 1048576 px) (Sp.lim 1048576 py))) from (congrArg Value.bool (show (decide ((Sp.dot (Sp.lim 1048576 px) (Sp.lim 1048576 py) (Sp.lim 1048576 ax) (Sp.lim 1048576 ay) (Sp.lim 1048576 bx) (Sp.lim 1048576 b_y)) ≤ 0)) = (Sp.onb (Sp.lim 1048576 ax) (Sp.lim 1048576 ay) (Sp.lim 1048576 bx) (Sp.lim 1048576 b_y) (Sp.lim 1048576 px) (Sp.lim 1048576 py)) from by (simp [Sp.onb, *]))))
 have h1p : ¬ (((Sp.cmp (Sp.crs (Sp.lim 1048576 ax) (Sp.lim 1048576 ay) (Sp.lim 1048576 bx) (Sp.lim 1048576 b_y) (Sp.lim 1048576 px) (Sp.lim 1048576 py)) 0) = 0)) := pB h1
 refine aw_p 7 (
  .a 3 4 <| .p (qC (sE ax ay bx b_y px py)) <| .p (qN false (h1)) <| .e 8 4) ?_
 exact qF<|qB [.bool false] (show (.bool false : Value) = (.bool (Sp.onb (Sp.lim 1048576 ax) (Sp.lim 1048576 ay) (Sp.lim 1048576 bx) (Sp.lim 1048576 b_y) (Sp.lim 1048576 px) (Sp.lim 1048576 py))) from (congrArg Value.bool (show false = (Sp.onb (Sp.lim 1048576 ax) (Sp.lim 1048576 ay) (Sp.lim 1048576 bx) (Sp.lim 1048576 b_y) (Sp.lim 1048576 px) (Sp.lim 1048576 py)) from by (simp [Sp.onb, *]))))
theorem next_own (xs : List Int) (p : Nat) (n : Int) (hp : p < xs.length) (h0 : 0 < n) (hz : n ≤ 9223372036854775807) :
    AC Try.prog 127 2 ([.pointer (some ⟨0, 0, none⟩), .int .i64 n]) [(0, ⟨[.slice (some ⟨1, p, none⟩) (xs.length - p) 0], 67, true, 1⟩), (1, ⟨(xs.map i64v), 3, true, 1⟩)] (.int .i64 (xs.getD p 0 % n)) [(0, ⟨[.slice (some ⟨1, (p + 1), none⟩) (xs.length - p - 1) 0], 67, true, 1⟩), (1, ⟨(xs.map i64v), 3, true, 1⟩)] := by
 refine qK Try.func127 (fun w0 W pin => ?_)
 refine aw_e 3 1 2<|qD 6 7<|aw_p 13 (
  .a 5 2 <| .p (qN false ((show ((((xs.length - p) : Nat) : Int) == 0) = false from by rw [beq_eq_false_iff_ne]; omega))) <| .a 2 2 <| .p (qN false ((show (decide (n < 1)) = false from decide_eq_false oO))) <| .e 1 2) ?_
 refine qP 27<|qH<|aw_p 15 (
  .a 4 2 <| .p (q7 (t := 22) (x := .tmp 19) (y := .const (.int .i64 0)) (k := 1) (off := p) (n := (xs.length - p)) (c := 0) (z := 1) (kd := .i64) (j := 0) kK kK kK kK kK oO oO) <|
  .p (lD 3 20 1 (p + 0 * 1) ⟨(xs.map i64v), 3, true, 1⟩ (.int .i64 (xs.getD p 0)) (s6 (f := i64v) (j := p) 0 kK kK hp)) <| .e 1 2) ?_
 refine aw_p 31 (
  .a 5 2 <|
  .p (jT (v' := .slice (some ⟨1, (p + 1), none⟩) ((xs.length - p) - 1) 0) (jN (t := 22) (x := .tmp 26) (lo := some (.const (.int .i64 1))) (hi := none) (k := 1) (off := p) (n := (xs.length - p)) (c := 0) (z := 1) (l := 1) (h := (((xs.length - p) : Nat) : Int)) (m := ((xs.length - p) - 1)) (b := ⟨(xs.map i64v), 3, true, 1⟩) kK kK kK kK kK kK kK kK oO oO oO oO) kK) <|
  .e 3 2) ?_
 refine aw_w [(1, .int .i64 n), (4, .int .i64 0), (5, .int .i64 (xs.getD p 0))] [(0, ⟨[.slice (some ⟨1, (p + 1), none⟩) ((xs.length - p) - 1) 0], 67, true, 1⟩), (1, ⟨(xs.map i64v), 3, true, 1⟩)] ?_ (hc := (by simp [wW, valsB, valB, flats_map, List.all_eq_true, i64v, c9]; try decide))
 refine aw_p 63 (
  .a 2 2 <| .p (qC (dR (xs.getD p 0) n oO oO)) <| .e 1 2) ?_
 exact qF<|qB [.int .i64 ((xs.getD p 0) % n)] (show (.int .i64 ((xs.getD p 0) % n) : Value) = (.int .i64 (xs.getD p 0 % n)) from (congrArg (Value.int .i64) (show ((xs.getD p 0) % n) = (xs.getD p 0 % n) from by rfl)))
theorem next0_own (xs : List Int) (p : Nat) (n : Int) (hp : ¬ p < xs.length) :
    AC Try.prog 127 2 ([.pointer (some ⟨0, 0, none⟩), .int .i64 n]) [(0, ⟨[.slice (some ⟨1, p, none⟩) (xs.length - p) 0], 67, true, 1⟩), (1, ⟨(xs.map i64v), 3, true, 1⟩)] (.int .i64 0) [(0, ⟨[.slice (some ⟨1, p, none⟩) (xs.length - p) 0], 67, true, 1⟩), (1, ⟨(xs.map i64v), 3, true, 1⟩)] := by
 refine qK Try.func127 (fun w0 W pin => ?_)
 refine aw_e 3 1 2<|qD 6 7<|aw_p 13 (
  .a 5 2 <| .p (qN true ((show ((((xs.length - p) : Nat) : Int) == 0) = true from by rw [beq_iff_eq]; omega))) <| .e 4 2) ?_
 exact qR 26<|aw_e 53 1 2<|qF<|qB [.int .i64 0] kK
theorem next_ro (xs : List Int) (p : Nat) (n : Int) (hp : p < xs.length) (h0 : 0 < n) (hz : n ≤ 9223372036854775807) :
    AC Try.prog 127 2 ([.pointer (some ⟨0, 0, none⟩), .int .i64 n]) [(0, ⟨[.slice (some ⟨1, p, none⟩) (xs.length - p) 0], 67, true, 1⟩), (1, ⟨(xs.map i64v), 3, false, 1⟩)] (.int .i64 (xs.getD p 0 % n)) [(0, ⟨[.slice (some ⟨1, (p + 1), none⟩) (xs.length - p - 1) 0], 67, true, 1⟩)] := by
 refine qK Try.func127 (fun w0 W pin => ?_)
 refine aw_e 3 1 2<|qD 6 7<|aw_p 13 (
  .a 5 2 <| .p (qN false ((show ((((xs.length - p) : Nat) : Int) == 0) = false from by rw [beq_eq_false_iff_ne]; omega))) <| .a 2 2 <| .p (qN false ((show (decide (n < 1)) = false from decide_eq_false oO))) <| .e 1 2) ?_
 refine qP 27<|qH<|aw_p 15 (
  .a 4 2 <| .p (q7 (t := 22) (x := .tmp 19) (y := .const (.int .i64 0)) (k := 1) (off := p) (n := (xs.length - p)) (c := 0) (z := 1) (kd := .i64) (j := 0) kK kK kK kK kK oO oO) <|
  .p (lD 3 20 1 (p + 0 * 1) ⟨(xs.map i64v), 3, false, 1⟩ (.int .i64 (xs.getD p 0)) (s6 (f := i64v) (j := p) 0 kK kK hp)) <| .e 1 2) ?_
 refine aw_p 31 (
  .a 5 2 <|
  .p (jT (v' := .slice (some ⟨1, (p + 1), none⟩) ((xs.length - p) - 1) 0) (jN (t := 22) (x := .tmp 26) (lo := some (.const (.int .i64 1))) (hi := none) (k := 1) (off := p) (n := (xs.length - p)) (c := 0) (z := 1) (l := 1) (h := (((xs.length - p) : Nat) : Int)) (m := ((xs.length - p) - 1)) (b := ⟨(xs.map i64v), 3, false, 1⟩) kK kK kK kK kK kK kK kK oO oO oO oO) kK) <|
  .e 3 2) ?_
 refine aw_w [(1, .int .i64 n), (4, .int .i64 0), (5, .int .i64 (xs.getD p 0))] [(0, ⟨[.slice (some ⟨1, (p + 1), none⟩) ((xs.length - p) - 1) 0], 67, true, 1⟩), (1, ⟨(xs.map i64v), 3, false, 1⟩)] ?_ (hc := (by simp [wW, valsB, valB, flats_map, List.all_eq_true, i64v, c9]; try decide))
 refine aw_p 63 (
  .a 2 2 <| .p (qC (dR (xs.getD p 0) n oO oO)) <| .e 1 2) ?_
 exact qF<|qB [.int .i64 ((xs.getD p 0) % n)] (show (.int .i64 ((xs.getD p 0) % n) : Value) = (.int .i64 (xs.getD p 0 % n)) from (congrArg (Value.int .i64) (show ((xs.getD p 0) % n) = (xs.getD p 0 % n) from by rfl)))
theorem next0_ro (xs : List Int) (p : Nat) (n : Int) (hp : ¬ p < xs.length) :
    AC Try.prog 127 2 ([.pointer (some ⟨0, 0, none⟩), .int .i64 n]) [(0, ⟨[.slice (some ⟨1, p, none⟩) (xs.length - p) 0], 67, true, 1⟩), (1, ⟨(xs.map i64v), 3, false, 1⟩)] (.int .i64 0) [(0, ⟨[.slice (some ⟨1, p, none⟩) (xs.length - p) 0], 67, true, 1⟩)] := by
 refine qK Try.func127 (fun w0 W pin => ?_)
 refine aw_e 3 1 2<|qD 6 7<|aw_p 13 (
  .a 5 2 <| .p (qN true ((show ((((xs.length - p) : Nat) : Int) == 0) = true from by rw [beq_iff_eq]; omega))) <| .e 4 2) ?_
 exact qR 26<|aw_e 53 1 2<|qF<|qB [.int .i64 0] kK
theorem vY (ax ay bx b_y cx cy : Int) (axl : -1048576 ≤ ax) (axu : ax ≤ 1048576) (ayl : -1048576 ≤ ay) (ayu : ay ≤ 1048576) (bxl : -1048576 ≤ bx) (bxu : bx ≤ 1048576) (b_yl : -1048576 ≤ b_y) (b_yu : b_y ≤ 1048576) (cxl : -1048576 ≤ cx) (cxu : cx ≤ 1048576) (cyl : -1048576 ≤ cy) (cyu : cy ≤ 1048576) : AC Try.prog 35 0 [.agg #[.int .i64 ax, .int .i64 ay], .agg #[.int .i64 bx, .int .i64 b_y], .agg #[.int .i64 cx, .int .i64 cy]] [] (.int .i64 (Sp.cmp (Sp.crs ax ay bx b_y cx cy) 0)) [] := by
  have h := sE ax ay bx b_y cx cy
  simp only [Sp.jR axl axu, Sp.jR ayl ayu, Sp.jR bxl bxu, Sp.jR b_yl b_yu, Sp.jR cxl cxu, Sp.jR cyl cyu] at h
  exact h
theorem sq_in (ax ay bx b_y : Int) (axl : -1048576 ≤ ax) (axu : ax ≤ 1048576) (ayl : -1048576 ≤ ay) (ayu : ay ≤ 1048576) (bxl : -1048576 ≤ bx) (bxu : bx ≤ 1048576) (b_yl : -1048576 ≤ b_y) (b_yu : b_y ≤ 1048576) : AC Try.prog 77 0 [.agg #[.int .i64 ax, .int .i64 ay], .agg #[.int .i64 bx, .int .i64 b_y]] [] (.int .i64 (Sp.dot ax ay bx b_y bx b_y)) [] := by
  have h := sq_ok ax ay bx b_y
  simp only [Sp.jR axl axu, Sp.jR ayl ayu, Sp.jR bxl bxu, Sp.jR b_yl b_yu] at h
  exact h
theorem fB (ax ay bx b_y cx cy : Int) (axl : -1048576 ≤ ax) (axu : ax ≤ 1048576) (ayl : -1048576 ≤ ay) (ayu : ay ≤ 1048576) (bxl : -1048576 ≤ bx) (bxu : bx ≤ 1048576) (b_yl : -1048576 ≤ b_y) (b_yu : b_y ≤ 1048576) (cxl : -1048576 ≤ cx) (cxu : cx ≤ 1048576) (cyl : -1048576 ≤ cy) (cyu : cy ≤ 1048576) : AC Try.prog 78 0 [.agg #[.int .i64 ax, .int .i64 ay], .agg #[.int .i64 bx, .int .i64 b_y], .agg #[.int .i64 cx, .int .i64 cy]] [] (.bool (Sp.onb ax ay bx b_y cx cy)) [] := by
  have h := on_ok ax ay bx b_y cx cy
  simp only [Sp.jR axl axu, Sp.jR ayl ayu, Sp.jR bxl bxu, Sp.jR b_yl b_yu, Sp.jR cxl cxu, Sp.jR cyl cyu] at h
  exact h
open Go Go.Proofs
theorem nextz (xs : List Int) (p : Nat) (n : Int) (h0 : 0 < n) (hz : n ≤ 9223372036854775807) : AC Try.prog 127 2 [.pointer (some ⟨0, 0, none⟩), .int .i64 n] [(0, ⟨[.slice (some ⟨1, (min p xs.length), none⟩) (xs.length - p) 0], 67, true, 1⟩), (1, ⟨(xs.map i64v), 3, false, 1⟩)] (.int .i64 (xs.getD p 0 % n)) [(0, ⟨[.slice (some ⟨1, (min (p + 1) xs.length), none⟩) (xs.length - (p + 1)) 0], 67, true, 1⟩)] := by
  by_cases hp : p < xs.length
  · have h := next_ro xs p n hp h0 hz
    rw [show min p xs.length = p by omega, show min (p + 1) xs.length = p + 1 by omega, Nat.sub_add_eq]
    exact h
  · have h := next0_ro xs (min p xs.length) n (by omega)
    rw [show xs.length - min p xs.length = 0 by omega] at h
    rw [show min (p + 1) xs.length = min p xs.length by omega, show xs.length - p = 0 by omega, show xs.length - (p + 1) = 0 by omega, show xs.getD p 0 = 0 by simp [List.getD, List.getElem?_eq_none (Nat.le_of_not_lt hp)], Int.zero_emod]
    exact h
end Go.Proofs.Ytadifmimefmcnaa.Am
namespace Go.Proofs.Ytadifmimefmcnaa.Am.Sp
def dgt (n : Int) (i : Nat) : Int := n / 4294967296 ^ i % 4294967296
theorem bpos (i : Nat) : 0 < (4294967296 : Int) ^ i := Int.pow_pos (by decide)
theorem bsucc (i : Nat) : (4294967296 : Int) ^ (i + 1) = 4294967296 ^ i * 4294967296 := Int.pow_succ _ _
/-- the rest below the next digit -/
theorem rest_succ (n : Int) (i : Nat) : n % 4294967296 ^ (i + 1) = n % 4294967296 ^ i + 4294967296 ^ i * dgt n i := by
  have hP := bpos i
  rw [bsucc]
  unfold dgt
  generalize (4294967296 : Int) ^ i = P at *
  have h1 := Int.emod_add_mul_ediv n P
  have h2 := Int.emod_add_mul_ediv (n / P) 4294967296
  have r0 := Int.emod_nonneg n (show P ≠ 0 by omega)
  have r1 := Int.emod_lt_of_pos n hP
  have s0 := Int.emod_nonneg (n / P) (show (4294967296 : Int) ≠ 0 by decide)
  have s1 := Int.emod_lt_of_pos (n / P) (show (0 : Int) < 4294967296 by decide)
  generalize hu : n / P = u at *
  generalize hd : u % 4294967296 = d at *
  generalize hv : u / 4294967296 = v at *
  generalize hr : n % P = r at *
  have e : n = (r + P * d) + P * 4294967296 * v := by rw [← h1, ← h2]; grind
  have lo : 0 ≤ P * d := Int.mul_nonneg (by omega) s0
  have hi : P * d ≤ P * 4294967295 := Int.mul_le_mul_of_nonneg_left (by omega) (by omega)
  rw [e, Int.add_mul_emod_self_left, Int.emod_eq_of_lt (by omega) (by omega)]
theorem rG (n : Int) : n % 4294967296 ^ 0 = 0 := by simp [Int.emod_one]
/-- the carry into digit i of a sum -/
def cy (m n : Int) (i : Nat) : Int := (m % 4294967296 ^ i + n % 4294967296 ^ i) / 4294967296 ^ i
/-- equal digits -/
theorem yK {m n : Int} {i : Nat} (h : m % 26959946667150639794667015087019630673637144422540572481103610249216 = n % 26959946667150639794667015087019630673637144422540572481103610249216) (hi : i < 7) : dgt m i = dgt n i := by
  have key : ∀ n : Int, dgt (n % 26959946667150639794667015087019630673637144422540572481103610249216) i = dgt n i := by
    intro n
    have e : n % 26959946667150639794667015087019630673637144422540572481103610249216 = n - 26959946667150639794667015087019630673637144422540572481103610249216 * (n / 26959946667150639794667015087019630673637144422540572481103610249216) := by omega
    generalize n / 26959946667150639794667015087019630673637144422540572481103610249216 = q at e
    rw [e]
    have c : i = 0 ∨ i = 1 ∨ i = 2 ∨ i = 3 ∨ i = 4 ∨ i = 5 ∨ i = 6 := by omega
    unfold dgt
    rcases c with rfl | rfl | rfl | rfl | rfl | rfl | rfl <;> simp only [Int.reducePow] <;> omega
  rw [← key m, ← key n, h]
theorem rest_eq {m n : Int} : ∀ {k : Nat}, (∀ i, i < k → dgt m i = dgt n i) → m % 4294967296 ^ k = n % 4294967296 ^ k
  | 0, _ => by rw [rG, rG]
  | k + 1, h => by rw [rest_succ, rest_succ, rest_eq (fun i hi => h i (by omega)), h k (by omega)]
theorem w7 : (4294967296 : Int) ^ 7 = 26959946667150639794667015087019630673637144422540572481103610249216 := by decide
theorem dgts_eq {m n : Int} : ((dgt m 0 == dgt n 0) && ((dgt m 1 == dgt n 1) && ((dgt m 2 == dgt n 2) && ((dgt m 3 == dgt n 3) && ((dgt m 4 == dgt n 4) && ((dgt m 5 == dgt n 5) && ((dgt m 6 == dgt n 6) && true))))))) = decide (m % 26959946667150639794667015087019630673637144422540572481103610249216 = n % 26959946667150639794667015087019630673637144422540572481103610249216) := by
  rw [Bool.eq_iff_iff]
  simp only [Bool.and_eq_true, beq_iff_eq, decide_eq_true_eq, and_true]
  constructor
  · rintro ⟨h0, h1, h2, h3, h4, h5, h6⟩
    rw [← w7]
    refine rest_eq fun i hi => ?_
    have c : i = 0 ∨ i = 1 ∨ i = 2 ∨ i = 3 ∨ i = 4 ∨ i = 5 ∨ i = 6 := by omega
    rcases c with rfl | rfl | rfl | rfl | rfl | rfl | rfl <;> assumption
  · intro h
    exact ⟨yK h (by decide), yK h (by decide), yK h (by decide), yK h (by decide), yK h (by decide), yK h (by decide), yK h (by decide)⟩
def gd (n d : Int) : Bool := decide (0 < d) && (decide (-9223372036854775808 < n) && decide (Nat.gcd n.natAbs d.natAbs = 1))
def fn (n d : Int) : Int := if gd n d = true then n else 0
def fd (n d : Int) : Int := if gd n d = true then d else 1
def rv (n d : Int) : Rat := Rat.divInt (fn n d) (fd n d)
def fitq (q : Rat) : Bool := decide (-9223372036854775807 ≤ q.num) && (decide (q.num ≤ 9223372036854775807) && decide ((q.den : Int) ≤ 9223372036854775807))
theorem bvn {a : Int} (h0 : 0 ≤ a) (h1 : a < 18446744073709551616) : (BitVec.ofInt 64 a).toNat = a.toNat := by
  rw [BitVec.toNat_ofInt]; omega
theorem bv_lt (v : BitVec 64) : 0 ≤ (v.toNat : Int) ∧ (v.toNat : Int) ≤ 18446744073709551615 := ⟨by omega, by have := v.isLt; omega⟩
theorem wrapbv (v : BitVec 64) : IntKind.wrap .u64 (v.toNat : Int) = (v.toNat : Int) := wrap_u64 (bv_lt v).1 (bv_lt v).2
theorem ufd {a b : Int} (h : 0 ≤ b) : Int.fdiv a b = a / b := Int.fdiv_eq_ediv_of_nonneg _ h
theorem ulow {a : Int} : IntKind.wrap .u64 a = a % 18446744073709551616 := IntKind.wrap_u64 a
end Go.Proofs.Ytadifmimefmcnaa.Am.Sp
namespace Go.Proofs.Ytadifmimefmcnaa.Am
open Go
end Go.Proofs.Ytadifmimefmcnaa.Am
namespace Go.Proofs.Ytadifmimefmcnaa.Am.Sp
def s64 (n : Int) : Int := (n + 9223372036854775808) % 18446744073709551616 - 9223372036854775808
def in64 (n : Int) : Bool := decide (-9223372036854775808 ≤ n) && decide (n ≤ 9223372036854775807)
theorem s64_bd (n : Int) : -9223372036854775808 ≤ s64 n ∧ s64 n ≤ 9223372036854775807 := by unfold s64; omega
theorem s64_id {n : Int} (h0 : -9223372036854775808 ≤ n) (h1 : n ≤ 9223372036854775807) : s64 n = n := by unfold s64; omega
end Go.Proofs.Ytadifmimefmcnaa.Am.Sp
namespace Go.Proofs.Ytadifmimefmcnaa.Am
open Go
end Go.Proofs.Ytadifmimefmcnaa.Am
namespace Go.Proofs.Ytadifmimefmcnaa.Am.Sp
theorem gcd_pos {n d : Int} (hd : 0 < d) : 0 < (Int.gcd n d : Int) := by
  have : 0 < Int.gcd n d := Int.gcd_pos_of_ne_zero_right n (by omega)
  omega
theorem abs_div (n : Int) {g : Int} (hg : 0 < g) (h : g ∣ n) : (n.natAbs : Int) / g = if n < 0 then -(n / g) else n / g := by
  obtain ⟨k, rfl⟩ := h
  rw [Int.mul_ediv_cancel_left _ (by omega)]
  split
  · rename_i hn
    have e : ((g * k).natAbs : Int) = g * (-k) := by rw [Int.mul_neg]; omega
    rw [e, Int.mul_ediv_cancel_left _ (by omega)]
  · rename_i hn
    have e : ((g * k).natAbs : Int) = g * k := by omega
    rw [e, Int.mul_ediv_cancel_left _ (by omega)]
theorem dI_num {n d : Int} (hd : 0 < d) : (Rat.divInt n d).num = n / (Int.gcd n d : Int) := by
  rw [Rat.num_divInt, Int.sign_eq_one_of_pos hd, Int.one_mul, Int.gcd_comm]
theorem dI_den {n d : Int} (hd : 0 < d) : ((Rat.divInt n d).den : Int) = d / (Int.gcd n d : Int) := by
  rw [Rat.den_divInt, if_neg (by omega), Int.gcd_comm]
  have : (d.natAbs : Int) = d := by omega
  rw [Int.natCast_ediv, this]
theorem quo_bd {a b : Int} (h : 0 ≤ a) (hb : 0 < b) : 0 ≤ a / b ∧ a / b ≤ a := ⟨Int.ediv_nonneg h (by omega), Int.ediv_le_self b h⟩
def wh (n : Int) : Int := s64 (n / 18446744073709551616)
def wl (n : Int) : Int := n % 18446744073709551616
theorem bX (n : Int) : IntKind.wrap .i64 n = s64 n := by rw [IntKind.wrap_i64]; unfold s64; omega
theorem eU {x : Int} (h0 : 0 ≤ x) (h1 : x ≤ 18446744073709551615) : IntKind.wrap .u64 ((BitVec.ofInt 64 x &&& BitVec.ofInt 64 4294967295).toNat : Int) = x % 4294967296 := by
  rw [wrapbv, BitVec.toNat_and, bvn h0 (by omega), bvn (by decide) (by decide)]
  obtain ⟨a, rfl⟩ : ∃ a : Nat, x = a := ⟨x.toNat, by omega⟩
  have e : a &&& (2 ^ 32 - 1) = a % 2 ^ 32 := Nat.and_two_pow_sub_one_eq_mod a 32
  have e2 : (4294967295 : Int).toNat = 2 ^ 32 - 1 := by decide
  rw [e2, Int.toNat_natCast, e]; omega
theorem pZ {a b A B : Int} (h0 : 0 ≤ a) (h1 : a ≤ A) (h2 : 0 ≤ b) (h3 : b ≤ B) : 0 ≤ a * b ∧ a * b ≤ A * B :=
  ⟨Int.mul_nonneg h0 h2, Int.mul_le_mul h1 h3 h2 (by omega)⟩
theorem sV {m n : Int} (h0 : 0 ≤ m) (h1 : m ≤ 18446744073709551615) (h2 : 0 ≤ n) (h3 : n ≤ 18446744073709551615) :
    (0 ≤ (m % 4294967296) * (n % 4294967296) ∧ (m % 4294967296) * (n % 4294967296) ≤ 18446744065119617025) ∧ (0 ≤ (m / 4294967296) * (n % 4294967296) ∧ (m / 4294967296) * (n % 4294967296) ≤ 18446744065119617025) ∧
    (0 ≤ (m % 4294967296) * (n / 4294967296) ∧ (m % 4294967296) * (n / 4294967296) ≤ 18446744065119617025) ∧ (0 ≤ (m / 4294967296) * (n / 4294967296) ∧ (m / 4294967296) * (n / 4294967296) ≤ 18446744065119617025) ∧
    m * n = (m / 4294967296) * (n / 4294967296) * 18446744073709551616 + ((m / 4294967296) * (n % 4294967296) + (m % 4294967296) * (n / 4294967296)) * 4294967296 + (m % 4294967296) * (n % 4294967296) := by
  have a0 : 0 ≤ m % 4294967296 ∧ m % 4294967296 ≤ 4294967295 := by omega
  have a1 : 0 ≤ m / 4294967296 ∧ m / 4294967296 ≤ 4294967295 := by omega
  have b0 : 0 ≤ n % 4294967296 ∧ n % 4294967296 ≤ 4294967295 := by omega
  have b1 : 0 ≤ n / 4294967296 ∧ n / 4294967296 ≤ 4294967295 := by omega
  refine ⟨pZ a0.1 a0.2 b0.1 b0.2, pZ a1.1 a1.2 b0.1 b0.2, pZ a0.1 a0.2 b1.1 b1.2, pZ a1.1 a1.2 b1.1 b1.2, ?_⟩
  have em : m = m / 4294967296 * 4294967296 + m % 4294967296 := by omega
  have en : n = n / 4294967296 * 4294967296 + n % 4294967296 := by omega
  generalize m / 4294967296 = p at *
  generalize m % 4294967296 = q at *
  generalize n / 4294967296 = r at *
  generalize n % 4294967296 = s at *
  subst em; subst en; grind
theorem ab_parts {a b : Int} (h0 : -9223372036854775808 ≤ a) (h1 : a ≤ 9223372036854775807) (h2 : -9223372036854775808 ≤ b) (h3 : b ≤ 9223372036854775807) :
    a * b = (a % 18446744073709551616) * (b % 18446744073709551616) - 18446744073709551616 * ((if a < 0 then b % 18446744073709551616 else 0) + (if b < 0 then a % 18446744073709551616 else 0)) + (if a < 0 ∧ b < 0 then 340282366920938463463374607431768211456 else 0) ∧
      0 ≤ (a % 18446744073709551616) * (b % 18446744073709551616) := by
  refine ⟨?_, Int.mul_nonneg (by omega) (by omega)⟩
  by_cases ha : a < 0
  · have ea : a % 18446744073709551616 = a + 18446744073709551616 := by omega
    by_cases hb : b < 0
    · have eb : b % 18446744073709551616 = b + 18446744073709551616 := by omega
      rw [if_pos ha, if_pos hb, if_pos ⟨ha, hb⟩, ea, eb]; grind
    · have eb : b % 18446744073709551616 = b := by omega
      rw [if_pos ha, if_neg hb, if_neg (by omega), ea, eb]; grind
  · have ea : a % 18446744073709551616 = a := by omega
    by_cases hb : b < 0
    · have eb : b % 18446744073709551616 = b + 18446744073709551616 := by omega
      rw [if_neg ha, if_pos hb, if_neg (by omega), ea, eb]; grind
    · have eb : b % 18446744073709551616 = b := by omega
      rw [if_neg ha, if_neg hb, if_neg (by omega), ea, eb]; omega
theorem in64_iff (n : Int) : in64 n = true ↔ -9223372036854775808 ≤ n ∧ n ≤ 9223372036854775807 := by unfold in64; simp
theorem short_neq {n : Int} (h0 : -170141183460469231731687303715884105728 ≤ n) (h1 : n < 170141183460469231731687303715884105728) :
    (!((wh n == wh (s64 n)) && ((wl n == wl (s64 n)) && true))) = !(in64 n) := by
  congr 1
  rw [Bool.eq_iff_iff, in64_iff]
  simp only [Bool.and_eq_true, beq_iff_eq, and_true]
  have b := s64_bd n
  unfold wh wl
  rw [s64_id (n := n / 18446744073709551616) (by omega) (by omega), s64_id (n := s64 n / 18446744073709551616) (by omega) (by omega)]
  unfold s64 at *
  omega
end Go.Proofs.Ytadifmimefmcnaa.Am.Sp
namespace Go.Proofs.Ytadifmimefmcnaa.Am.Sp
theorem tY (n : Int) : 0 ≤ wl n ∧ wl n ≤ 18446744073709551615 := by unfold wl; omega
theorem tZ (n : Int) : -9223372036854775808 ≤ wh n ∧ wh n ≤ 9223372036854775807 := s64_bd _
theorem sD {n : Int} (h0 : -170141183460469231731687303715884105728 ≤ n) (h1 : n < 170141183460469231731687303715884105728) : wh n = n / 18446744073709551616 := s64_id (by omega) (by omega)
theorem w_eq {a b : Int} (a0 : -170141183460469231731687303715884105728 ≤ a) (a1 : a < 170141183460469231731687303715884105728) (b0 : -170141183460469231731687303715884105728 ≤ b) (b1 : b < 170141183460469231731687303715884105728) :
    ((wh a == wh b) && ((wl a == wl b) && true)) = decide (a = b) := by
  rw [sD a0 a1, sD b0 b1, Bool.eq_iff_iff]
  simp only [Bool.and_eq_true, beq_iff_eq, and_true, decide_eq_true_eq]
  unfold wl
  omega
theorem wh_neg {a : Int} (a0 : -170141183460469231731687303715884105728 ≤ a) (a1 : a < 170141183460469231731687303715884105728) : decide (wh a < 0) = decide (a < 0) := by
  rw [sD a0 a1, decide_eq_decide]; omega
def qEC (x : Int) : Bool := decide (-170141183460469231731687303715884105728 ≤ x) && decide (x ≤ 170141183460469231731687303715884105727)
def tm (x : Int) : Int := if qEC x = true then x else 0
def tmE (x : Int) : Int := if qEC x = true then 0 else 2
theorem jF {x : Int} (h : ¬ (-170141183460469231731687303715884105728 ≤ x ∧ x ≤ 170141183460469231731687303715884105727)) : tm x = 0 ∧ tmE x = 2 := by
  have : ¬ qEC x = true := by unfold qEC; simpa using h
  unfold tm tmE; rw [if_neg this, if_neg this]; exact ⟨rfl, rfl⟩
theorem qU {x : Int} (h : -170141183460469231731687303715884105728 ≤ x ∧ x ≤ 170141183460469231731687303715884105727) : tm x = x ∧ tmE x = 0 := by
  have : qEC x = true := by unfold qEC; simpa using h
  unfold tm tmE; rw [if_pos this, if_pos this]; exact ⟨rfl, rfl⟩
/-- what is known of a guess -/
structure Guess (u y a b c q r : Int) : Prop where
  ya : y = a * 4294967296 + b
  a0 : 2147483648 ≤ a
  a1 : a ≤ 4294967295
  b0 : 0 ≤ b
  b1 : b ≤ 4294967295
  c0 : 0 ≤ c
  c1 : c ≤ 4294967295
  u0 : 0 ≤ u
  u1 : u < y
  qr : q * a + r = u
  q0 : 0 ≤ q
  q1 : q ≤ 4294967297
  r0 : 0 ≤ r
  top : u * 4294967296 + c < q * y + y
theorem Guess.parts {u y a b c q r : Int} (g : Guess u y a b c q r) : q * y = q * a * 4294967296 + q * b := by rw [g.ya]; grind
theorem Guess.first {u y a b c : Int} (ya : y = a * 4294967296 + b) (a0 : 2147483648 ≤ a) (a1 : a ≤ 4294967295) (b0 : 0 ≤ b) (b1 : b ≤ 4294967295) (c0 : 0 ≤ c) (c1 : c ≤ 4294967295) (u0 : 0 ≤ u) (u1 : u < y) :
    Guess u y a b c (u / a) (u - u / a * a) ∧ u - u / a * a ≤ 4294967295 := by
  have e := Int.emod_add_mul_ediv u a
  have m0 := Int.emod_nonneg u (show a ≠ 0 by omega)
  have m1 := Int.emod_lt_of_pos u (show 0 < a by omega)
  have q0 : 0 ≤ u / a := Int.ediv_nonneg u0 (by omega)
  rw [Int.mul_comm] at e
  generalize hq : u / a = q at *
  have q1 : q ≤ 4294967297 := by
    rcases Int.lt_or_le 4294967297 q with h | h
    · exfalso
      have : 4294967298 * a ≤ q * a := Int.mul_le_mul_of_nonneg_right (by omega) (by omega)
      omega
    · exact h
  have hb : 0 ≤ q * b := Int.mul_nonneg q0 b0
  refine ⟨⟨ya, a0, a1, b0, b1, c0, c1, u0, u1, by omega, q0, q1, by omega, ?_⟩, by omega⟩
  have : q * y = q * a * 4294967296 + q * b := by rw [ya]; grind
  rw [this]
  omega
theorem Guess.next {u y a b c q r : Int} (g : Guess u y a b c q r) (h : q ≥ 4294967296 ∨ q * b > 4294967296 * r + c) : Guess u y a b c (q - 1) (r + a) := by
  have p := g.parts
  obtain ⟨ya, a0, a1, b0, b1, c0, c1, u0, u1, qr, q0, q1, r0, top⟩ := g
  have hlt : u * 4294967296 + c < q * y := by
    rcases h with h | h
    · have : 4294967296 * y ≤ q * y := Int.mul_le_mul_of_nonneg_right h (by omega)
      omega
    · rw [p]; omega
  have hq : 1 ≤ q := by
    rcases Int.lt_or_le 0 q with h' | h'
    · omega
    · have e : q = 0 := by omega
      rw [e, Int.zero_mul] at hlt; omega
  have e1 : (q - 1) * a = q * a - a := by grind
  have e2 : (q - 1) * y = q * y - y := by grind
  exact ⟨ya, a0, a1, b0, b1, c0, c1, u0, u1, by rw [e1]; omega, by omega, by omega, by omega, by rw [e2]; omega⟩
theorem dY {a n : Int} (a0 : -170141183460469231731687303715884105728 ≤ a) (a1 : a < 170141183460469231731687303715884105728) (n0 : -9223372036854775808 ≤ n) (n1 : n ≤ 9223372036854775807) {m : Int} (hm : m = (n.natAbs : Int)) :
    0 ≤ (a.natAbs : Int) / 18446744073709551616 * m ∧ (a.natAbs : Int) / 18446744073709551616 * m ≤ 85070591730234615865843651857942052864 ∧
    0 ≤ (a.natAbs : Int) % 18446744073709551616 * m ∧ (a.natAbs : Int) % 18446744073709551616 * m ≤ 170141183460469231722463931679029329920 ∧
    (¬ (a < 0 ↔ n < 0) → a * n = -((a.natAbs : Int) / 18446744073709551616 * m * 18446744073709551616 + (a.natAbs : Int) % 18446744073709551616 * m)) ∧
    ((a < 0 ↔ n < 0) → a * n = (a.natAbs : Int) / 18446744073709551616 * m * 18446744073709551616 + (a.natAbs : Int) % 18446744073709551616 * m) := by
  subst hm
  have b1 := pZ (a := (a.natAbs : Int) / 18446744073709551616) (b := (n.natAbs : Int)) (A := 9223372036854775808) (B := 9223372036854775808) (by omega) (by omega) (by omega) (by omega)
  have b2 := pZ (a := (a.natAbs : Int) % 18446744073709551616) (b := (n.natAbs : Int)) (A := 18446744073709551615) (B := 9223372036854775808) (by omega) (by omega) (by omega) (by omega)
  have e : (a.natAbs : Int) * (n.natAbs : Int) = (a.natAbs : Int) / 18446744073709551616 * (n.natAbs : Int) * 18446744073709551616 + (a.natAbs : Int) % 18446744073709551616 * (n.natAbs : Int) := by
    have := Int.emod_add_mul_ediv (a.natAbs : Int) 18446744073709551616
    generalize (a.natAbs : Int) / 18446744073709551616 = p at *
    generalize (a.natAbs : Int) % 18446744073709551616 = q at *
    rw [← this]; grind
  refine ⟨b1.1, by omega, b2.1, by omega, fun h => ?_, fun h => ?_⟩
  · rw [← e]
    rcases Int.lt_or_le a 0 with ha | ha
    · have e1 : (a.natAbs : Int) = -a := by omega
      have e2 : (n.natAbs : Int) = n := by omega
      rw [e1, e2]; grind
    · have e1 : (a.natAbs : Int) = a := by omega
      have e2 : (n.natAbs : Int) = -n := by omega
      rw [e1, e2]; grind
  · rw [← e]
    rcases Int.lt_or_le a 0 with ha | ha
    · have e1 : (a.natAbs : Int) = -a := by omega
      have e2 : (n.natAbs : Int) = -n := by omega
      rw [e1, e2]; grind
    · have e1 : (a.natAbs : Int) = a := by omega
      have e2 : (n.natAbs : Int) = n := by omega
      rw [e1, e2]
end Go.Proofs.Ytadifmimefmcnaa.Am.Sp
namespace Go.Proofs.Ytadifmimefmcnaa.Am
open Go
end Go.Proofs.Ytadifmimefmcnaa.Am
namespace Go.Proofs.Ytadifmimefmcnaa.Am.Sp
end Go.Proofs.Ytadifmimefmcnaa.Am.Sp
namespace Go.Proofs.Ytadifmimefmcnaa.Am.Sp
def rmin (a b : Rat) : Rat := if b < a then b else a
def rmax (a b : Rat) : Rat := if a < b then b else a
/-- size of a number -/
def Bd (N D : Nat) (q : Rat) : Prop := q.num.natAbs ≤ N ∧ q.den ≤ D
theorem bd_divInt {n d : Int} (hd : 0 < d) : Bd n.natAbs d.natAbs (Rat.divInt n d) := by
  have gp := gcd_pos (n := n) hd
  refine ⟨?_, ?_⟩
  · rw [dI_num hd]
    have h := abs_div n gp (Int.gcd_dvd_left n d)
    have h2 := quo_bd (a := (n.natAbs : Int)) (b := (Int.gcd n d : Int)) (by omega) gp
    generalize n / (Int.gcd n d : Int) = q at *
    split at h <;> omega
  · have h := dI_den (n := n) hd
    have h2 := quo_bd (a := d) (b := (Int.gcd n d : Int)) (by omega) gp
    omega
theorem Bd.mono {N D N' D' : Nat} {q : Rat} (h : Bd N D q) (h1 : N ≤ N') (h2 : D ≤ D') : Bd N' D' q := ⟨Nat.le_trans h.1 h1, Nat.le_trans h.2 h2⟩
theorem qA3 (q : Rat) : Rat.divInt q.num (q.den : Int) = q := by rw [Rat.divInt_ofNat, Rat.mkRat_self]
theorem Bd.add {N D N' D' : Nat} {a b : Rat} (h : Bd N D a) (k : Bd N' D' b) : Bd (N * D' + N' * D) (D * D') (a + b) := by
  have da := a.den_pos
  have db := b.den_pos
  have e : a + b = Rat.divInt (a.num * b.den + b.num * a.den) ((a.den : Int) * b.den) := by
    conv => lhs; rw [← qA3 a, ← qA3 b, Rat.divInt_add_divInt _ _ (by omega) (by omega)]
  rw [e]
  have pd : (0 : Int) < (a.den : Int) * b.den := Int.mul_pos (by omega) (by omega)
  refine (bd_divInt pd).mono ?_ ?_
  · refine Nat.le_trans (Int.natAbs_add_le _ _) (Nat.add_le_add ?_ ?_)
    · rw [Int.natAbs_mul]; exact Nat.mul_le_mul h.1 (by simpa using k.2)
    · rw [Int.natAbs_mul]; exact Nat.mul_le_mul k.1 (by simpa using h.2)
  · rw [Int.natAbs_mul]; exact Nat.mul_le_mul (by simpa using h.2) (by simpa using k.2)
theorem Bd.min {N D N' D' : Nat} {a b : Rat} (h : Bd N D a) (k : Bd N' D' b) : Bd (Nat.max N N') (Nat.max D D') (rmin a b) := by
  unfold rmin; split
  · exact k.mono (Nat.le_max_right _ _) (Nat.le_max_right _ _)
  · exact h.mono (Nat.le_max_left _ _) (Nat.le_max_left _ _)
theorem Bd.max {N D N' D' : Nat} {a b : Rat} (h : Bd N D a) (k : Bd N' D' b) : Bd (Nat.max N N') (Nat.max D D') (rmax a b) := by
  unfold rmax; split
  · exact k.mono (Nat.le_max_right _ _) (Nat.le_max_right _ _)
  · exact h.mono (Nat.le_max_left _ _) (Nat.le_max_left _ _)
theorem Bd.int (n : Int) : Bd n.natAbs 1 (n : Rat) := by unfold Bd; rw [Rat.num_intCast, Rat.den_intCast]; exact ⟨Nat.le_refl _, Nat.le_refl _⟩
def d6 (k : Int) : Int := if k = 0 then 1 else if k = 1 then 2 else if k = 2 then 3 else if k = 3 then 4 else if k = 4 then 5 else 7
def sgS (a b c d : Int) : Bool := gd a b && (gd c d && decide (rv a b ≤ rv c d))
def sl (a b c d : Int) : Rat := if sgS a b c d = true then rv a b else ((0 : Int) : Rat)
def al4 (p q r s : Rat) : Bool := fitq p && (fitq q && (fitq r && fitq s))
def e4 (p q r s : Rat) : Int := if al4 p q r s = true then 0 else 2
def al2 (p q : Rat) : Bool := fitq p && fitq q
def e2 (p q : Rat) : Int := if al2 p q = true then 0 else 2
end Go.Proofs.Ytadifmimefmcnaa.Am.Sp
namespace Go.Proofs.Ytadifmimefmcnaa.Am.Sp
def has2 (l : List (Int × Int)) (px py : Int) : Bool := l.any (fun z => z.1 == px && (z.2 == py && true))
def addb (l : List (Int × Int)) (px py qx qy rx ry : Int) : Bool := onb qx qy rx ry px py && !(has2 l px py)
def addp (l : List (Int × Int)) (px py qx qy rx ry : Int) : List (Int × Int) := if addb l px py qx qy rx ry = true then l ++ [(px, py)] else l
/-- the ends of two segments that are on both -/
def shr (ax ay bx b_y cx cy dx dy : Int) : List (Int × Int) :=
  addp (addp (addp (addp [] ax ay cx cy dx dy) bx b_y cx cy dx dy) cx cy ax ay bx b_y) dx dy ax ay bx b_y
/-- two segments cross between their ends -/
def prp (ax ay bx b_y cx cy dx dy : Int) : Bool :=
  decide (cmp (crs ax ay bx b_y cx cy) 0 * cmp (crs ax ay bx b_y dx dy) 0 < 0) && decide (cmp (crs cx cy dx dy ax ay) 0 * cmp (crs cx cy dx dy bx b_y) 0 < 0)
def qX (ax ay bx b_y cx cy dx dy : Int) : Int :=
  if prp ax ay bx b_y cx cy dx dy = true then 1 else mn 2 ((shr ax ay bx b_y cx cy dx dy).length : Int)
theorem q9 {l px py qx qy rx ry} (h : addb l px py qx qy rx ry = true) : addp l px py qx qy rx ry = l ++ [(px, py)] := by unfold addp; rw [if_pos h]
theorem q8 {l px py qx qy rx ry} (h : addb l px py qx qy rx ry = false) : addp l px py qx qy rx ry = l := by unfold addp; rw [if_neg (by rw [h]; decide)]
theorem nN (l : List (Int × Int)) (px py : Int) : has2 l px py = true ↔ (px, py) ∈ l := by
  unfold has2
  rw [List.any_eq_true]
  constructor
  · rintro ⟨⟨x, y⟩, hm, h⟩
    simp only [Bool.and_true, Bool.and_eq_true, beq_iff_eq] at h
    obtain ⟨rfl, rfl⟩ := h; exact hm
  · intro h; exact ⟨_, h, by simp⟩
theorem mem_addp {l : List (Int × Int)} {px py qx qy rx ry : Int} {z : Int × Int} : z ∈ addp l px py qx qy rx ry ↔ z ∈ l ∨ (z = (px, py) ∧ onb qx qy rx ry px py = true) := by
  unfold addp addb
  cases h1 : onb qx qy rx ry px py <;> cases h2 : has2 l px py <;> simp
  rw [nN] at h2
  intro h; rw [h]; exact h2
theorem wB {l : List (Int × Int)} {px py qx qy rx ry : Int} (h : l.Nodup) : (addp l px py qx qy rx ry).Nodup := by
  unfold addp
  split
  · next hb =>
    rw [List.nodup_append]
    refine ⟨h, by simp, ?_⟩
    intro a ha b hb' e
    unfold addb at hb
    simp only [List.mem_singleton] at hb'
    subst hb'; subst e
    rw [(nN ..).2 ha] at hb; simp at hb
  · exact h
theorem mem_shr {ax ay bx b_y cx cy dx dy : Int} {z : Int × Int} : z ∈ shr ax ay bx b_y cx cy dx dy ↔
    (z = (ax, ay) ∧ onb cx cy dx dy ax ay = true) ∨ (z = (bx, b_y) ∧ onb cx cy dx dy bx b_y = true) ∨ (z = (cx, cy) ∧ onb ax ay bx b_y cx cy = true) ∨ (z = (dx, dy) ∧ onb ax ay bx b_y dx dy = true) := by
  unfold shr; simp only [mem_addp]; simp [or_assoc]
theorem bG (ax ay bx b_y cx cy dx dy : Int) : (shr ax ay bx b_y cx cy dx dy).Nodup := by
  unfold shr; exact wB (wB (wB (wB List.nodup_nil)))
theorem sgn_mul_le (x y : Int) : sgn x * sgn y ≤ 0 ↔ x * y ≤ 0 := by
  unfold sgn
  rcases Int.lt_trichotomy x 0 with h | h | h <;> rcases Int.lt_trichotomy y 0 with k | k | k
  · have := Int.mul_pos_of_neg_of_neg h k; simp [h, k]; omega
  · subst k; simp
  · have := Int.mul_neg_of_neg_of_pos h k; simp [h, k, show ¬ y < 0 by omega]; omega
  · subst h; simp
  · subst h; simp
  · subst h; simp
  · have := Int.mul_neg_of_pos_of_neg h k; simp [h, k, show ¬ x < 0 by omega]; omega
  · subst k; simp
  · have := Int.mul_pos h k; simp [h, k, show ¬ x < 0 by omega, show ¬ y < 0 by omega]; omega
theorem qDD (x y : Int) : sgn x * sgn y < 0 ↔ x * y < 0 := by
  unfold sgn
  rcases Int.lt_trichotomy x 0 with h | h | h <;> rcases Int.lt_trichotomy y 0 with k | k | k
  · have := Int.mul_pos_of_neg_of_neg h k; simp [h, k]; omega
  · subst k; simp
  · have := Int.mul_neg_of_neg_of_pos h k; simp [h, k, show ¬ y < 0 by omega]; omega
  · subst h; simp
  · subst h; simp
  · subst h; simp
  · have := Int.mul_neg_of_pos_of_neg h k; simp [h, k, show ¬ x < 0 by omega]; omega
  · subst k; simp
  · have := Int.mul_pos h k; simp [h, k, show ¬ x < 0 by omega, show ¬ y < 0 by omega]; omega
theorem cmp_mul_lt (x y : Int) : cmp x 0 * cmp y 0 < 0 ↔ x * y < 0 := by
  have e : ∀ z, cmp z 0 = sgn z := fun z => by unfold cmp sgn; (repeat' split) <;> omega
  rw [e, e, qDD]
theorem prp_iff (ax ay bx b_y cx cy dx dy : Int) : prp ax ay bx b_y cx cy dx dy = true ↔ crs ax ay bx b_y cx cy * crs ax ay bx b_y dx dy < 0 ∧ crs cx cy dx dy ax ay * crs cx cy dx dy bx b_y < 0 := by
  unfold prp; rw [Bool.and_eq_true, decide_eq_true_eq, decide_eq_true_eq, cmp_mul_lt, cmp_mul_lt]
end Go.Proofs.Ytadifmimefmcnaa.Am.Sp
