import Derived.Test.YtigllakcfdoagaaAm15
import Derived.Laws.AppendOwn
namespace Go.Proofs.Ytigllakcfdoagaa.Am
open Go
set_option linter.unusedVariables false
/-! ### 27. append -/
section
variable {C : Ctx} {P : Program} {ops : Array Oper} {S : St} {i : Nat}
theorem wr_gone (H : Nat → Cell) (k k' : Nat) (c c' : Cell) : wr [(k, c), (k', c')] H = upd (wr [(k', c')] H) k c := by
  funext n
  simp only [wr, upd, findW]
  cases Nat.beq n k <;> rfl
theorem Rel.gone {ρ : Ren} {a : Act} {w : World} (h : Rel C ρ S a w) (k : Nat) : Rel C ρ ⟨S.T, upd S.H k .gone⟩ a w := by
  have old : ∀ k1 b1, upd S.H k .gone k1 = .live b1 → S.H k1 = .live b1 := fun k1 b1 hb => by
    by_cases e : k1 = k
    · subst e; rw [upd_self] at hb; cases hb
    · rw [upd_ne _ _ e] at hb; exact hb
  refine ⟨h.size, h.defers, h.temps, ⟨fun k' (hf : upd S.H k _ k' = .fresh) => ?_, fun k' b' hb' => h.heap.live k' b' (old _ _ hb'), fun k1 k2 b1 b2 sp1 sp2 hne hb1 hb2 => h.heap.apart k1 k2 b1 b2 sp1 sp2 hne (old _ _ hb1) (old _ _ hb2)⟩, h.frame, fun k1 b1 sp1 hb1 => h.owned k1 b1 sp1 (old _ _ hb1), h.pin⟩
  by_cases e : k' = k
  · subst e; rw [upd_self] at hf; cases hf
  · rw [upd_ne _ _ e] at hf; exact h.heap.fresh k' hf
theorem Rel.move {ρ : Ren} {a : Act} {w : World} (h : Rel C ρ S a w) {k k' d : Nat} {b b' : Blk} {sp : Spot} (hk : S.H k = .live b) (ho : b.own = true) (hsp : ρ k = some sp) (hf : S.H k' = .fresh)
    (hd : d ≤ sp.size) (ho' : b'.own = true) (he : b'.elem = b.elem) (hst : b'.step = b.step) (hl : b'.cells.length ≤ sp.size - d) (hc : ∀ (j : Nat) (u : Value), b'.cells[j]? = some u → b.cells[d + j]? = some u) :
    Ren.le ρ (upd ρ k' (some ⟨sp.block, sp.off + d, sp.size - d, sp.step⟩)) ∧ Rel C (upd ρ k' (some ⟨sp.block, sp.off + d, sp.size - d, sp.step⟩)) ⟨S.T, wr [(k, .gone), (k', .live b')] S.H⟩ a w := by
  have hn := h.heap.fresh k' hf
  have hne : k ≠ k' := fun e => by subst e; rw [hk] at hf; cases hf
  have hle := Ren.le_upd (ρ := ρ) ⟨sp.block, sp.off + d, sp.size - d, sp.step⟩ hn
  rw [wr_gone, wr_one]
  have get : ∀ k1 b1, upd (upd S.H k' (.live b')) k .gone k1 = .live b1 → k1 ≠ k ∧ ((k1 = k' ∧ b1 = b') ∨ (k1 ≠ k' ∧ S.H k1 = .live b1)) := fun k1 b1 hb => by
    by_cases e : k1 = k
    · subst e; rw [upd_self] at hb; cases hb
    · rw [upd_ne _ _ e] at hb
      refine ⟨e, ?_⟩
      by_cases e' : k1 = k'
      · subst e'; rw [upd_self] at hb; cases hb; exact .inl ⟨rfl, rfl⟩
      · rw [upd_ne _ _ e'] at hb; exact .inr ⟨e', hb⟩
  have spot : ∀ k1 b1 sp1, k1 ≠ k' → S.H k1 = .live b1 → upd ρ k' (some ⟨sp.block, sp.off + d, sp.size - d, sp.step⟩) k1 = some sp1 → ρ k1 = some sp1 := fun k1 b1 sp1 e _ hh => by rw [upd_ne _ _ e] at hh; exact hh
  obtain ⟨sp0, e1, e2⟩ := h.heap.live k b hk
  rw [hsp] at e1; cases e1
  have e2' := e2
  rw [BlkOk.own ho] at e2'
  obtain ⟨st, c, g1, g2, g3, g4⟩ := e2'
  refine ⟨hle, h.size, h.defers, fun t v hv => let ⟨v', a1, a2⟩ := h.temps t v hv; ⟨v', a1, a2.mono hle⟩, ⟨fun k1 (hf1 : upd (upd S.H k' _) k _ k1 = .fresh) => ?_, fun k1 b1 hb1 => ?_, fun k1 k2 b1 b2 sp1 sp2 hne12 hb1 hb2 ho1 nv q1 q2 => ?_⟩, h.frame, fun k1 b1 sp1 hb1 ho1 q1 => ?_, fun k1 hk1 => let ⟨s, p1, p2⟩ := h.pin k1 hk1; ⟨s, p1, hle _ _ p2⟩⟩
  · by_cases e : k1 = k
    · subst e; rw [upd_self] at hf1; cases hf1
    · rw [upd_ne _ _ e] at hf1
      by_cases e' : k1 = k'
      · subst e'; rw [upd_self] at hf1; cases hf1
      · rw [upd_ne _ _ e'] at hf1 ⊢; exact h.heap.fresh k1 hf1
  · obtain ⟨_, hh⟩ := get k1 b1 hb1
    rcases hh with ⟨rfl, rfl⟩ | ⟨e', hb⟩
    · refine ⟨_, upd_self _ _ _, ?_⟩
      rw [BlkOk.own ho', he, hst]
      refine ⟨st, c, g1, by show sp.off + d + (sp.size - d) = _; omega, hl, fun j u hu => ?_⟩
      obtain ⟨v, a1, a2⟩ := g4 (d + j) u (hc j u hu)
      exact ⟨v, by show c[sp.off + d + j]? = _; rw [Nat.add_assoc]; exact a1, a2.mono hle⟩
    · obtain ⟨s, a1, a2⟩ := h.heap.live k1 b1 hb
      exact ⟨s, hle _ _ a1, a2.mono hle⟩
  · obtain ⟨n1, h1⟩ := get k1 b1 hb1
    obtain ⟨n2, h2⟩ := get k2 b2 hb2
    rcases h1 with ⟨rfl, rfl⟩ | ⟨e1, p1⟩ <;> rcases h2 with ⟨rfl, rfl⟩ | ⟨e2, p2⟩
    · exact absurd rfl hne12
    · rw [upd_self] at q1; cases q1
      exact h.heap.apart k k2 b b2 sp sp2 (Ne.symm n2) hk p2 ho nv hsp (spot _ _ _ e2 p2 q2)
    · rw [upd_self] at q2; cases q2
      exact h.heap.apart k1 k b1 b sp1 sp n1 p1 hk ho1 (not_void ho) (spot _ _ _ e1 p1 q1) hsp
    · exact h.heap.apart k1 k2 b1 b2 sp1 sp2 hne12 p1 p2 ho1 nv (spot _ _ _ e1 p1 q1) (spot _ _ _ e2 p2 q2)
  · obtain ⟨n1, h1⟩ := get k1 b1 hb1
    rcases h1 with ⟨rfl, rfl⟩ | ⟨e1, p1⟩
    · rw [upd_self] at q1; cases q1
      exact h.owned k b sp hk ho hsp
    · exact h.owned k1 b1 sp1 p1 ho1 (spot _ _ _ e1 p1 q1)

/-- an append of a slice to a slice: the operands, and the element's type, size and bytes -/
def appAt (P : Program) (ops : Array Oper) (S : St) (i : Nat) : Option (Operand × Operand × TypeId × TypeId × TypeInfo × Value) := match shapeAt ops S i with
  | some (.call c, true) => match c.callee with
    | .builtin b => match b with
      | .append => match c.args.toList, c.argTypes.toList with
        | [x, y], [t, t'] => bif Nat.beq t t' then match sliceElem P t with
          | some e => match P.info? e with
            | some inf => match inf.zero with
              | some z => bif Nat.beq z.cells.size inf.size then some (x, y, t, e, inf, z) else none
              | none => none
            | none => none
          | none => none
          else none
        | _, _ => none
      | _ => none
    | _ => none
  | _ => none
theorem sliceElem_spec {t e : TypeId} (h : sliceElem P t = some e) : P.underlying t = some (.slice e) := by
  unfold sliceElem at h
  split at h
  · rename_i hu; cases h; exact hu
  · cases h
theorem appAt_spec {x y : Operand} {t e : TypeId} {inf : TypeInfo} {z : Value} (h : appAt P ops S i = some (x, y, t, e, inf, z)) :
    shapeAt ops S i = some (.call ⟨.builtin .append, #[x, y], #[t, t]⟩, true) ∧ P.underlying t = some (.slice e) ∧ P.info? e = some inf ∧ inf.zero = some z ∧ z.cells.size = inf.size := by
  unfold appAt at h
  split at h
  · rename_i c hsh
    obtain ⟨cal, ars, ats⟩ := c
    simp only at h
    split at h
    · split at h
      · split at h
        · rename_i x' y' t1 t2 hars hats
          cases hb : Nat.beq t1 t2 with
          | false => rw [hb] at h; cases h
          | true =>
            have := Nat.eq_of_beq_eq_true hb
            subst this
            rw [hb, cond_true] at h
            split at h
            · rename_i e' he
              split at h
              · rename_i inf' hi
                split at h
                · rename_i z' hz
                  obtain ⟨hq, hh⟩ := bif_some h
                  cases hh
                  have ea : ars = #[x, y] := by rw [← Array.toArray_toList (xs := ars), hars]
                  have et : ats = #[t, t] := by rw [← Array.toArray_toList (xs := ats), hats]
                  subst ea; subst et
                  exact ⟨hsh, sliceElem_spec he, hi, hz, Nat.eq_of_beq_eq_true hq⟩
                · cases h
              · cases h
            · cases h
        · cases h
      · cases h
    · cases h
  · cases h
theorem cells_at {ρ : Ren} {w : World} {sp : Spot} {b : Blk} (h : BlkOk ρ w sp b) {off n : Nat} (hle : off + n ≤ b.cells.length) :
    ∃ c : List Value, c.length = n ∧ (∀ (j : Nat) (v : Value), c[j]? = some v → w.cell? ((⟨sp.block, sp.off + off, none⟩ : Addr).add j) = some v) ∧
      ∀ (j : Nat) (u : Value), ((b.cells.drop off).take n)[j]? = some u → ∃ v, c[j]? = some v ∧ VRel ρ u v := by
  have hc : ∀ j, j < n → ∃ x, w.cell? ((⟨sp.block, sp.off + off, none⟩ : Addr).add j) = some x ∧ ∀ u, b.cells[off + j]? = some u → VRel ρ u x := fun j hj => by
    obtain ⟨x, h1, h2⟩ := h.cell (j := off + j) (u := b.cells[off + j]) (List.getElem?_eq_getElem (by omega))
    refine ⟨x, by rw [add_at, Nat.add_assoc]; exact h1, fun u hu => ?_⟩
    rw [List.getElem?_eq_getElem (by omega)] at hu
    cases hu; exact h2
  let f : Nat → Value := fun j => (w.cell? ((⟨sp.block, sp.off + off, none⟩ : Addr).add j)).getD undef
  have hf : ∀ j, j < n → w.cell? ((⟨sp.block, sp.off + off, none⟩ : Addr).add j) = some (f j) := fun j hj => by
    obtain ⟨x, h1, _⟩ := hc j hj
    simp only [f, h1, Option.getD_some]
  have hget : ∀ j, j < n → ((List.range n).map f)[j]? = some (f j) := fun j hj => by simp only [List.getElem?_map, List.getElem?_range hj, Option.map_some]
  refine ⟨(List.range n).map f, by simp, fun j v hv => ?_, fun j u hu => ?_⟩
  · have hj : j < n := by
      have := (List.getElem?_eq_some_iff.1 hv).1
      simpa using this
    rw [hget j hj] at hv
    cases hv
    exact hf j hj
  · have hj : j < n := by
      have := (List.getElem?_eq_some_iff.1 hu).1
      simp at this; omega
    obtain ⟨x, h1, h2⟩ := hc j hj
    refine ⟨x, ?_, h2 u ?_⟩
    · rw [hget j hj]; simp only [f, h1, Option.getD_some]
    · rw [List.getElem?_take_of_lt hj, List.getElem?_drop] at hu; exact hu
/-- the new block of an append that grows -/
theorem Rel.grown {ρ : Ren} {a : Act} {w : World} (h : Rel C ρ S a w) {k' : Nat} (hf : S.H k' = .fresh) {us vs : List Value} (hl : us.length = vs.length)
    (hv : ∀ (j : Nat) (u : Value), us[j]? = some u → ∃ v, vs[j]? = some v ∧ VRel ρ u v) (zs : Array Value) (e : TypeId) (z : Nat) :
    Ren.le ρ (upd ρ k' (some ⟨w.heap.size, 0, (vs.toArray ++ zs).size, z⟩)) ∧
    Rel C (upd ρ k' (some ⟨w.heap.size, 0, (vs.toArray ++ zs).size, z⟩)) ⟨S.T, wr [(k', .live ⟨us, e, true, z⟩)] S.H⟩ a (w.drew.alloc (.cells (vs.toArray ++ zs) e)) := by
  have hd := h.drawn (w.drawn + 1)
  obtain ⟨hn, hr⟩ := Rel.new hd hf (cells := us) (c := vs.toArray ++ zs) (e := e) (st := z) (by simp; omega) (fun j u hu => by
    obtain ⟨v, h1, h2⟩ := hv j u hu
    refine ⟨v, ?_, h2⟩
    have hj := (List.getElem?_eq_some_iff.1 h1).1
    rw [Array.getElem?_append_left (by simpa using hj)]
    simpa using h1)
  exact ⟨Ren.le_upd _ hn, hr⟩
theorem rel_append {ρ : Ren} {us us' vs vs' : List Value} (hl : us.length = vs.length) (h : ∀ (j : Nat) (u : Value), us[j]? = some u → ∃ v, vs[j]? = some v ∧ VRel ρ u v)
    (h' : ∀ (j : Nat) (u : Value), us'[j]? = some u → ∃ v, vs'[j]? = some v ∧ VRel ρ u v) : ∀ (j : Nat) (u : Value), (us ++ us')[j]? = some u → ∃ v, (vs ++ vs')[j]? = some v ∧ VRel ρ u v := fun j u hu => by
  by_cases hj : j < us.length
  · rw [List.getElem?_append_left hj] at hu
    rw [List.getElem?_append_left (by omega)]
    exact h j u hu
  · rw [List.getElem?_append_right (by omega)] at hu
    rw [List.getElem?_append_right (by omega), ← hl]
    exact h' _ u hu
/-- the first append: the slice is nil -/
theorem does_appendNil {x y : Operand} {t e : TypeId} {inf : TypeInfo} {zv : Value} {k2 off2 m c2 k' : Nat} {b2 : Blk} (hs : appAt P ops S i = some (x, y, t, e, inf, zv))
    (hx : ev S x = some (.slice none 0 0)) (hy : ev S y = some (.slice (some ⟨k2, off2, none⟩) m c2)) (hH2 : S.H k2 = .live b2) (hK : S.H k' = .fresh)
    (hz : (Nat.ble (off2 + m * inf.size) b2.cells.length && Nat.ble 1 m) = true) (hB : m * inf.bytes ≤ 140737488355328) (hM : m ≤ 4611686018427387904) :
    Does C P ops i S ⟨[k2, k'], .slice (some ⟨k', 0, none⟩) m 0, [(k', .live ⟨(b2.cells.drop off2).take (m * inf.size), e, true, inf.size⟩)]⟩ := by
  obtain ⟨hsh, hu, hi, hzv, hzs⟩ := appAt_spec hs
  refine .of_run hsh fun o ho S' ρ a w hT hH' hr => ?_
  rw [Bool.and_eq_true] at hz
  have l2 := Nat.le_of_ble_eq_true hz.1
  have l3 := Nat.le_of_ble_eq_true hz.2
  have hrx := ev_rel hr (by rw [hT x (by simp [Op.operands, Call.operands])]; exact hx)
  have hry := ev_rel hr (by rw [hT y (by simp [Op.operands, Call.operands])]; exact hy)
  generalize hax : a.eval x = ax at hrx
  generalize hay : a.eval y = ay at hry
  cases hrx with
  | nilSlice =>
    cases hry with
    | slice0 => omega
    | slice _ _ _ _ cap2 sp2 hk2 hc2 hs2 =>
      obtain ⟨q2, f1, f2⟩ := hr.heap.live k2 b2 (by rw [hH' k2 (by simp)]; exact hH2)
      rw [hk2] at f1; cases f1
      obtain ⟨cs, rl, r0, rc⟩ := cells_at f2 (off := off2) (n := m * inf.size) l2
      have hrun := run_append_nil (P := P) w t o.type e inf zv hu hi hzv ⟨sp2.block, sp2.off + off2, none⟩ m cap2 cs rl r0 (by omega) (by omega) (by omega)
      obtain ⟨hle, hrel⟩ := Rel.grown hr (by rw [hH' k' (by simp)]; exact hK) (us := (b2.cells.drop off2).take (m * inf.size)) (vs := cs) (by rw [rl]; simp; omega) rc (Builtin.zeroCells zv.cells (grownCap w m 0 e - m)) e inf.size
      have hge := grownCap_ge w m 0 e
      refine ⟨_, _, _, .slice (some ⟨w.heap.size, 0, none⟩) m (grownCap w m 0 e), ?_, .inl rfl, ?_, hrel⟩
      · have ev1 : (#[x, y] : Array Operand).map a.eval = #[.slice none 0 0, .slice (some ⟨sp2.block, sp2.off + off2, none⟩) m cap2] := by simp [hax, hay]
        simp only [execOp, ho, resolve, ev1, Sem.run_bind, Sem.run_pure, Result.andThen_ok, invoke, builtin, hrun]
      · refine .slice k' 0 m 0 (grownCap w m 0 e) _ (upd_self _ _ _) hge ?_
        simp only [Array.size_append, List.size_toArray, rl, size_zeroCells, hzs, ← Nat.add_mul, Nat.zero_add]
        exact Nat.mul_le_mul_right _ (by omega)
theorem does_append {x y : Operand} {t e : TypeId} {inf : TypeInfo} {zv : Value} {k off n c k2 off2 m c2 k' : Nat} {b b2 : Blk} (hs : appAt P ops S i = some (x, y, t, e, inf, zv))
    (hx : ev S x = some (.slice (some ⟨k, off, none⟩) n c)) (hy : ev S y = some (.slice (some ⟨k2, off2, none⟩) m c2)) (hH : S.H k = .live b) (hH2 : S.H k2 = .live b2) (hK : S.H k' = .fresh)
    (hz : (b.own && Nat.beq b.elem e && Nat.beq b.step inf.size && plainAll ((b2.cells.drop off2).take (m * inf.size)) && Nat.ble (off + n * inf.size) b.cells.length && Nat.ble (off2 + m * inf.size) b2.cells.length && Nat.ble 1 m) = true)
    (hB : (n + m) * inf.bytes ≤ 140737488355328) (hM : n + m ≤ 4611686018427387904) :
    Does C P ops i S ⟨[k, k2, k'], .slice (some ⟨k', 0, none⟩) (n + m) 0, [(k, .gone), (k', .live ⟨(b.cells.drop off).take (n * inf.size) ++ (b2.cells.drop off2).take (m * inf.size), e, true, inf.size⟩)]⟩ := by
  obtain ⟨hsh, hu, hi, hzv, hzs⟩ := appAt_spec hs
  refine .of_run hsh fun o ho S' ρ a w hT hH' hr => ?_
  simp only [Bool.and_eq_true] at hz
  obtain ⟨⟨⟨⟨⟨⟨b1, b2'⟩, b3⟩, b4⟩, b5⟩, b6⟩, b7⟩ := hz
  have eel := Nat.eq_of_beq_eq_true b2'
  have est := Nat.eq_of_beq_eq_true b3
  have l1 := Nat.le_of_ble_eq_true b5
  have l2 := Nat.le_of_ble_eq_true b6
  have l3 := Nat.le_of_ble_eq_true b7
  have hrx := ev_rel hr (by rw [hT x (by simp [Op.operands, Call.operands])]; exact hx)
  have hry := ev_rel hr (by rw [hT y (by simp [Op.operands, Call.operands])]; exact hy)
  generalize hax : a.eval x = ax at hrx
  generalize hay : a.eval y = ay at hry
  have hHk : S'.H k = .live b := by rw [hH' k (by simp)]; exact hH
  have hHf : S'.H k' = .fresh := by rw [hH' k' (by simp)]; exact hK
  cases hry with
  | slice0 => omega
  | slice _ _ _ _ cap2 sp2 hk2 hc2 hs2 =>
    obtain ⟨q2, f1, f2⟩ := hr.heap.live k2 b2 (by rw [hH' k2 (by simp)]; exact hH2)
    rw [hk2] at f1; cases f1
    obtain ⟨cs, rl, r0, rc⟩ := cells_at f2 (off := off2) (n := m * inf.size) l2
    have lnew : ((b2.cells.drop off2).take (m * inf.size)).length = m * inf.size := by simp; omega
    cases hrx with
    | slice0 _ _ _ A =>
      have hlen0 : (b.cells.drop off).take (0 * inf.size) = [] := by simp
      rw [hlen0, List.nil_append]
      obtain ⟨hle, hrel⟩ := Rel.grown hr hHf (us := (b2.cells.drop off2).take (m * inf.size)) (vs := cs) (by rw [rl, lnew]) rc (Builtin.zeroCells zv.cells (grownCap w (0 + m) 0 e - (0 + m))) e inf.size
      have hge := grownCap_ge w (0 + m) 0 e
      have hval : VRel (upd ρ k' (some ⟨w.heap.size, 0, (cs.toArray ++ Builtin.zeroCells zv.cells (grownCap w (0 + m) 0 e - (0 + m))).size, inf.size⟩)) (.slice (some ⟨k', 0, none⟩) (0 + m) 0) (.slice (some ⟨w.heap.size, 0, none⟩) (0 + m) (grownCap w (0 + m) 0 e)) := by
        refine .slice k' 0 (0 + m) 0 (grownCap w (0 + m) 0 e) _ (upd_self _ _ _) hge ?_
        simp only [Array.size_append, List.size_toArray, rl, size_zeroCells, hzs, ← Nat.add_mul, Nat.zero_add]
        exact Nat.mul_le_mul_right _ (by omega)
      have hrel' := hrel.gone k
      rw [← wr_gone] at hrel'
      cases A with
      | none =>
        have hrun := run_append_nil (P := P) w t o.type e inf zv hu hi hzv ⟨sp2.block, sp2.off + off2, none⟩ m cap2 cs rl r0 (by omega) (by omega) (by simp only [Nat.zero_add] at hB; omega)
        refine ⟨_, _, _, .slice (some ⟨w.heap.size, 0, none⟩) (0 + m) (grownCap w (0 + m) 0 e), ?_, .inl rfl, hval, hrel'⟩
        have ev1 : (#[x, y] : Array Operand).map a.eval = #[.slice none 0 0, .slice (some ⟨sp2.block, sp2.off + off2, none⟩) m cap2] := by simp [hax, hay]
        simp only [execOp, ho, resolve, ev1, Sem.run_bind, Sem.run_pure, Result.andThen_ok, invoke, builtin, hrun, Nat.zero_add]
      | some A =>
        have hrun := run_append_grow (P := P) w t o.type e inf zv hu hi hzv A 0 0 [] (by simp) (by simp) ⟨sp2.block, sp2.off + off2, none⟩ m cap2 cs rl r0 (by omega) (by omega) (growslice_fits (by omega) hB)
        refine ⟨_, _, _, .slice (some ⟨w.heap.size, 0, none⟩) (0 + m) (grownCap w (0 + m) 0 e), ?_, .inl rfl, hval, hrel'⟩
        have ev1 : (#[x, y] : Array Operand).map a.eval = #[.slice (some A) 0 0, .slice (some ⟨sp2.block, sp2.off + off2, none⟩) m cap2] := by simp [hax, hay]
        simp only [execOp, ho, resolve, ev1, Sem.run_bind, Sem.run_pure, Result.andThen_ok, invoke, builtin, hrun, Array.empty_append]
    | slice _ _ _ _ cap sp hk hc1 hs1 =>
      obtain ⟨q1, e1, e2⟩ := hr.heap.live k b hHk
      rw [hk] at e1; cases e1
      obtain ⟨co, ol, o0, oc⟩ := cells_at e2 (off := off) (n := n * inf.size) l1
      have lold : ((b.cells.drop off).take (n * inf.size)).length = n * inf.size := by simp; omega
      have e2' := e2
      rw [BlkOk.own b1] at e2'
      obtain ⟨st, cur, hg, hcs, hcl, hcc⟩ := e2'
      rw [st, est] at hs1
      by_cases hroom : n + m ≤ cap
      · have hmul : (n + m) * inf.size ≤ cap * inf.size := Nat.mul_le_mul_right _ hroom
        rw [Nat.add_mul] at hmul
        have hfl : (b.cells.take (off + n * inf.size)).length = off + n * inf.size := by simp; omega
        obtain ⟨w', c', r1, r2, r3, r4, r5, r6, r7, r8, r9⟩ := run_storeCells (P := P) (ρ := ρ) (blk := sp.block) (o := sp.off) (e := b.elem) (fin := b.cells.take (off + n * inf.size) ++ (b2.cells.drop off2).take (m * inf.size)) ((b2.cells.drop off2).take (m * inf.size)) cs w cur (off + n * inf.size) 0 hg
          (by rw [lnew]; omega) (by rw [lnew, rl]) (fun u hu => List.all_eq_true.1 b4 u hu) rc
          (fun j u hu => by
            rw [List.getElem?_append_right (by omega), hfl, show off + n * inf.size + 0 + j - (off + n * inf.size) = j by omega]; exact hu)
          (fun j u hj hu => by
            by_cases hj' : j < off + n * inf.size
            · rw [List.getElem?_append_left (by omega), List.getElem?_take_of_lt hj'] at hu
              exact hcc j u hu
            · rw [List.getElem?_append_right (by omega), hfl] at hu
              have := (List.getElem?_eq_some_iff.1 hu).1
              omega)
        have hw := Rel.write hr hHk b1 hk (cells := b.cells.take (off + n * inf.size) ++ (b2.cells.drop off2).take (m * inf.size)) (by rw [List.length_append, hfl, lnew]; omega) r2 (by rw [r3]; exact hcs) r4 r5 r6 r7 r8 r9
        rw [wr_one] at hw
        have hne : k' ≠ k := fun e => by subst e; rw [hHk] at hHf; cases hHf
        obtain ⟨hle, hm⟩ := Rel.move hw (k := k) (k' := k') (d := off) (b := ⟨b.cells.take (off + n * inf.size) ++ (b2.cells.drop off2).take (m * inf.size), b.elem, true, b.step⟩)
          (b' := ⟨(b.cells.drop off).take (n * inf.size) ++ (b2.cells.drop off2).take (m * inf.size), e, true, inf.size⟩) (upd_self _ _ _) rfl hk (by show upd S'.H k _ k' = _; rw [upd_ne _ _ hne]; exact hHf) (by omega) rfl eel.symm est.symm
          (by show (_ ++ _ : List Value).length ≤ _; rw [List.length_append, lold, lnew]; omega)
          (fun j u hu => by
            by_cases hj : j < n * inf.size
            · have hu : ((b.cells.drop off).take (n * inf.size) ++ (b2.cells.drop off2).take (m * inf.size))[j]? = some u := hu
              rw [List.getElem?_append_left (by omega), List.getElem?_take_of_lt hj, List.getElem?_drop] at hu
              show (b.cells.take (off + n * inf.size) ++ (b2.cells.drop off2).take (m * inf.size))[off + j]? = some u
              rw [List.getElem?_append_left (by omega), List.getElem?_take_of_lt (by omega)]; exact hu
            · have hu : ((b.cells.drop off).take (n * inf.size) ++ (b2.cells.drop off2).take (m * inf.size))[j]? = some u := hu
              rw [List.getElem?_append_right (by omega), lold] at hu
              show (b.cells.take (off + n * inf.size) ++ (b2.cells.drop off2).take (m * inf.size))[off + j]? = some u
              rw [List.getElem?_append_right (by omega), hfl, show off + j - (off + n * inf.size) = j - n * inf.size by omega]; exact hu)
        have hH2 : wr [(k, .gone), (k', .live ⟨(b.cells.drop off).take (n * inf.size) ++ (b2.cells.drop off2).take (m * inf.size), e, true, inf.size⟩)] (upd S'.H k (.live ⟨b.cells.take (off + n * inf.size) ++ (b2.cells.drop off2).take (m * inf.size), b.elem, true, b.step⟩)) =
            wr [(k, .gone), (k', .live ⟨(b.cells.drop off).take (n * inf.size) ++ (b2.cells.drop off2).take (m * inf.size), e, true, inf.size⟩)] S'.H := by
          funext x
          simp only [wr, findW, upd]
          cases Nat.beq x k <;> rfl
        have hm' : Rel C _ ⟨S'.T, wr [(k, .gone), (k', .live ⟨(b.cells.drop off).take (n * inf.size) ++ (b2.cells.drop off2).take (m * inf.size), e, true, inf.size⟩)] (upd S'.H k (.live ⟨b.cells.take (off + n * inf.size) ++ (b2.cells.drop off2).take (m * inf.size), b.elem, true, b.step⟩))⟩ a w' := hm
        rw [hH2] at hm'
        refine ⟨_, w', _, .slice (some ⟨sp.block, sp.off + off, none⟩) (n + m) cap, ?_, .inl rfl, ?_, hm'⟩
        · have ev1 : (#[x, y] : Array Operand).map a.eval = #[.slice (some ⟨sp.block, sp.off + off, none⟩) n cap, .slice (some ⟨sp2.block, sp2.off + off2, none⟩) m cap2] := by simp [hax, hay]
          have hf := run_firstCells_some (P := P) w inf.size m ⟨sp2.block, sp2.off + off2, none⟩ m cap2 cs rl r0
          have r1' : (storeCells ⟨sp.block, sp.off + off + n * inf.size, none⟩ cs 0).run P w = .ok () w' := by rw [Nat.add_assoc]; exact r1
          have hrun : (Builtin.append_ #[t, t] o.type #[.slice (some ⟨sp.block, sp.off + off, none⟩) n cap, .slice (some ⟨sp2.block, sp2.off + off2, none⟩) m cap2]).run P w = .ok (.slice (some ⟨sp.block, sp.off + off, none⟩) (n + m) cap) w' := by
            simp [Builtin.append_, run_underlying hu, sizeOf, typeInfo, hi, Builtin.lenOf, hroom, hf, add_at, r1']
          simp only [execOp, ho, resolve, ev1, Sem.run_bind, Sem.run_pure, Result.andThen_ok, invoke, builtin, hrun]
        · have : sp.off + off = (⟨sp.block, sp.off + off, sp.size - off, sp.step⟩ : Spot).off + 0 := rfl
          refine .slice k' 0 (n + m) 0 cap ⟨sp.block, sp.off + off, sp.size - off, sp.step⟩ (upd_self _ _ _) hroom ?_
          show 0 + cap * sp.step ≤ sp.size - off
          rw [st, est]; omega
      · have hrun := run_append_grow (P := P) w t o.type e inf zv hu hi hzv ⟨sp.block, sp.off + off, none⟩ n cap co ol o0 ⟨sp2.block, sp2.off + off2, none⟩ m cap2 cs rl r0 (by omega) (by omega) (growslice_fits (by omega) hB)
        obtain ⟨hle, hrel⟩ := Rel.grown hr hHf (us := (b.cells.drop off).take (n * inf.size) ++ (b2.cells.drop off2).take (m * inf.size)) (vs := co ++ cs) (by rw [List.length_append, List.length_append, rl, ol, lnew, lold])
          (rel_append (by rw [lold, ol]) oc rc) (Builtin.zeroCells zv.cells (grownCap w (n + m) cap e - (n + m))) e inf.size
        have hge := grownCap_ge w (n + m) cap e
        have hrel' := hrel.gone k
        rw [← wr_gone] at hrel'
        have harr : (co ++ cs).toArray = co.toArray ++ cs.toArray := by simp
        refine ⟨_, _, _, .slice (some ⟨w.heap.size, 0, none⟩) (n + m) (grownCap w (n + m) cap e), ?_, .inl rfl, ?_, hrel'⟩
        · have ev1 : (#[x, y] : Array Operand).map a.eval = #[.slice (some ⟨sp.block, sp.off + off, none⟩) n cap, .slice (some ⟨sp2.block, sp2.off + off2, none⟩) m cap2] := by simp [hax, hay]
          simp only [execOp, ho, resolve, ev1, Sem.run_bind, Sem.run_pure, Result.andThen_ok, invoke, builtin, hrun, harr]
        · refine .slice k' 0 (n + m) 0 (grownCap w (n + m) cap e) _ (upd_self _ _ _) hge ?_
          simp only [Array.size_append, List.size_toArray, List.length_append, rl, ol, size_zeroCells, hzs, ← Nat.add_mul, Nat.zero_add]
          exact Nat.mul_le_mul_right _ (by omega)
/-- what an append does, as the kernel walks it -/
def appStep (P : Program) (ops : Array Oper) (S : St) (i nid : Nat) : Option Step := match appAt P ops S i with
  | some (x, y, _, e, inf, _) => match ev S x, ev S y with
    | some (.slice none 0 0), some (.slice (some ⟨k2, off2, none⟩) m _) => match S.H k2, S.H nid with
      | .live b2, .fresh => bif Nat.ble (off2 + m * inf.size) b2.cells.length && Nat.ble 1 m && Nat.ble (m * inf.bytes) 140737488355328 && Nat.ble m 4611686018427387904 then
          some ⟨[k2, nid], .slice (some ⟨nid, 0, none⟩) m 0, [(nid, .live ⟨(b2.cells.drop off2).take (m * inf.size), e, true, inf.size⟩)]⟩ else none
      | _, _ => none
    | some (.slice (some ⟨k, off, none⟩) n _), some (.slice (some ⟨k2, off2, none⟩) m _) => match S.H k, S.H k2, S.H nid with
      | .live b, .live b2, .fresh => bif (b.own && Nat.beq b.elem e && Nat.beq b.step inf.size && plainAll ((b2.cells.drop off2).take (m * inf.size)) && Nat.ble (off + n * inf.size) b.cells.length && Nat.ble (off2 + m * inf.size) b2.cells.length && Nat.ble 1 m) &&
            Nat.ble ((n + m) * inf.bytes) 140737488355328 && Nat.ble (n + m) 4611686018427387904 then
          some ⟨[k, k2, nid], .slice (some ⟨nid, 0, none⟩) (n + m) 0, [(k, .gone), (nid, .live ⟨(b.cells.drop off).take (n * inf.size) ++ (b2.cells.drop off2).take (m * inf.size), e, true, inf.size⟩)]⟩ else none
      | _, _, _ => none
    | _, _ => none
  | none => none
theorem appStep_does {nid : Nat} {s : Step} (h : appStep P ops S i nid = some s) : Does C P ops i S s := by
  unfold appStep at h
  split at h
  · rename_i x y t e inf zv hs
    split at h
    · rename_i k2 off2 m c2 hx hy
      split at h
      · rename_i b2 hH2 hK
        obtain ⟨hb, he⟩ := bif_some h
        cases he
        rw [Bool.and_eq_true, Bool.and_eq_true] at hb
        exact does_appendNil hs hx hy hH2 hK hb.1.1 (Nat.le_of_ble_eq_true hb.1.2) (Nat.le_of_ble_eq_true hb.2)
      · cases h
    · rename_i k off n c k2 off2 m c2 hx hy
      split at h
      · rename_i b b2 hH hH2 hK
        obtain ⟨hb, he⟩ := bif_some h
        cases he
        rw [Bool.and_eq_true, Bool.and_eq_true] at hb
        exact does_append hs hx hy hH hH2 hK hb.1.1 (Nat.le_of_ble_eq_true hb.1.2) (Nat.le_of_ble_eq_true hb.2)
      · cases h
    · cases h
  · cases h
theorem does_ap (nid : Nat) (h : (appStep P ops S i nid).isSome = true := by kernel_rfl) : Does C P ops i S ((appStep P ops S i nid).getD default) := by
  cases hs : appStep P ops S i nid with
  | none => rw [hs] at h; cases h
  | some s => exact appStep_does hs
theorem aw_joinTB {C : Ctx} {P : Program} {S : St} {Q : Exit → St → Prop} {c y : Code} {S1 : St} {K : St → Prop} {id : Nat} (h : AW C P y S1 Q) (k : AW C P y S1 Q → AW C P c S (blockQ id (thenQ K Q))) : AW C P c S (blockQ id (thenQ K Q)) := k h
end
end Go.Proofs.Ytigllakcfdoagaa.Am
