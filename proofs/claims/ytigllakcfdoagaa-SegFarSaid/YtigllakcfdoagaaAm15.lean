import Derived.Test.YtigllakcfdoagaaAm14
namespace Go.Proofs.Ytigllakcfdoagaa.Am
open Go
set_option linter.unusedVariables false
/-! ### 26. Slices of arrays; copy -/
section
variable {C : Ctx} {P : Program} {ops : Array Oper} {S : St} {i : Nat}
theorem bounds_run' {w : World} {q : Bool} {n cap : Nat} {lo hi : Option Value} {l h : Int} (hlo : (lo = none ∧ l = 0) ∨ ∃ kd, lo = some (.int kd l)) (hhi : (hi = none ∧ h = n) ∨ ∃ kd, hi = some (.int kd h))
    (h0 : 0 ≤ l) (h1 : l ≤ h) (h2 : h ≤ n) (hc : n ≤ cap) : (Instr.sliceBounds q n cap lo hi none).run P w = .ok (l.toNat, h.toNat, cap) w := by
  unfold Instr.sliceBounds
  rcases hlo with ⟨rfl, rfl⟩ | ⟨kd, rfl⟩ <;> rcases hhi with ⟨rfl, rfl⟩ | ⟨kd', rfl⟩
  · simp
  · simp only [Sem.run_bind, Sem.run_pure, Result.andThen_ok, sliceBound_run (P := P) (w := w) (show 0 ≤ h by omega) (show h ≤ (cap : Int) by omega)]; rfl
  · simp only [Sem.run_bind, Sem.run_pure, Result.andThen_ok, sliceBound_run (P := P) (w := w) h0 h1]; simp
  · simp only [Sem.run_bind, Sem.run_pure, Result.andThen_ok, sliceBound_run (P := P) (w := w) (show 0 ≤ h by omega) (show h ≤ (cap : Int) by omega)]
    rw [sliceBound_run (P := P) (w := w) h0 (show l ≤ (h.toNat : Int) by omega)]; rfl
/-- operands of a slice -/
def slcAt (ops : Array Oper) (S : St) (i : Nat) (d : Nat) : Option (TypeId × Value × Int × Int) := match shapeAt ops S i with
  | some (.slice t x lo hi none, true) => match ev S x, boundV 0 S lo, boundV d S hi with
    | some v, some l, some h => some (t, v, l, h)
    | _, _, _ => none
  | _ => none
def sarrB (P : Program) (t : TypeId) (n z : Nat) : Bool := match arrLen P t, elemSize P t with
  | some n', some z' => Nat.beq n n' && Nat.beq z z'
  | _, _ => false
theorem does_sarr {t : TypeId} {k off : Nat} {l h : Int} {b : Blk} (n z m : Nat) (hs : slcAt ops S i n = some (t, .pointer (some ⟨k, off, none⟩), l, h)) (ht : sarrB P t n z = true) (hH : S.H k = .live b)
    (hb : (b.own && Nat.beq b.step z && Nat.ble (off + n * z) b.cells.length) = true) (h0 : 0 ≤ l) (h1 : l ≤ h) (h2 : h ≤ n) (h3 : l < n) (hm : (m : Int) = h - l) :
    Does C P ops i S ⟨[k], .slice (some ⟨k, off + l.toNat * z, none⟩) m 0, []⟩ := by
  unfold slcAt at hs
  split at hs
  · rename_i t' x lo hi hsh
    split at hs
    · rename_i v l' h' hx hlo hhi
      cases hs
      refine .of_run hsh fun o ho S' ρ a w hT hH' hr => ?_
      have hrx := ev_rel hr (by rw [hT x (by simp [Op.operands])]; exact hx)
      generalize hax : a.eval x = ax at hrx
      have bnd : ∀ (d : Nat) (x' : Operand) (q : Int), (x' ∈ (Op.slice t x lo hi none).operands.toList) → boundV d S (some x') = some q → ∃ kd, a.eval x' = .int kd q := fun d x' q hm e => by
        simp only [boundV] at e
        cases hev : ev S x' with
        | none => rw [hev] at e; cases e
        | some u =>
          rw [hev] at e
          cases u <;> simp at e
          subst e
          have := ev_rel hr (v := .int _ _) (by rw [hT x' hm]; exact hev)
          generalize a.eval x' = q at this
          cases this; exact ⟨_, rfl⟩
      have lo1 : (lo.map a.eval = none ∧ l = 0) ∨ ∃ kd, lo.map a.eval = some (.int kd l) := by
        cases lo with
        | none => simp only [boundV, Option.some.injEq] at hlo; exact .inl ⟨rfl, by omega⟩
        | some x' => obtain ⟨kd, e⟩ := bnd 0 x' l (by simp [Op.operands]) hlo; exact .inr ⟨kd, by simp [e]⟩
      have hi1 : (hi.map a.eval = none ∧ h = n) ∨ ∃ kd, hi.map a.eval = some (.int kd h) := by
        cases hi with
        | none => simp only [boundV, Option.some.injEq] at hhi; exact .inl ⟨rfl, hhi.symm⟩
        | some x' => obtain ⟨kd, e⟩ := bnd n x' h (by simp [Op.operands]) hhi; exact .inr ⟨kd, by simp [e]⟩
      cases hrx with
      | ptr _ _ sp hk =>
        unfold sarrB at ht
        split at ht
        · rename_i n' z' hn hz
          rw [Bool.and_eq_true] at ht
          have en := Nat.eq_of_beq_eq_true ht.1
          have ez := Nat.eq_of_beq_eq_true ht.2
          subst en; subst ez
          unfold arrLen at hn
          split at hn
          · rename_i m' e hu
            cases hn
            unfold elemSize at hz
            rw [hu] at hz
            simp only [Option.map_eq_some_iff] at hz
            obtain ⟨inf, hinf, rfl⟩ := hz
            simp only [Bool.and_eq_true] at hb
            obtain ⟨⟨b1, b2⟩, b3⟩ := hb
            obtain ⟨sp', e1, e2⟩ := hr.heap.live k b (by rw [hH' k (by simp)]; exact hH)
            rw [hk] at e1; cases e1
            have est : sp.step = inf.size := by rw [e2.1, Nat.eq_of_beq_eq_true b2]
            have hle := Nat.le_of_ble_eq_true b3
            have hsz : b.cells.length ≤ sp.size := by rw [BlkOk.own b1] at e2; obtain ⟨_, _, _, _, q, _⟩ := e2; exact q
            have hm' : h.toNat - l.toNat = m := by omega
            refine ⟨_, w, ρ, .slice (some (if n = l.toNat then ⟨sp.block, sp.off + off, none⟩ else ⟨sp.block, sp.off + off + l.toNat * inf.size, none⟩)) m (n - l.toNat), ?_, .inl rfl, ?_, hr⟩
            · simp only [execOp, ho, hax, Instr.sliceAt, Instr.sureAddr, Sem.run_bind, Sem.run_pure, run_underlying hu, Result.andThen_ok, Option.map_none, bounds_run' (P := P) (w := w) lo1 hi1 h0 h1 h2 (Nat.le_refl _), run_size hinf, add_at, hm']
            · rw [if_neg (by omega), Nat.add_assoc]
              refine .slice k (off + l.toNat * inf.size) m 0 (n - l.toNat) sp hk (by omega) ?_
              rw [est]
              have : l.toNat * inf.size + (n - l.toNat) * inf.size = n * inf.size := by rw [← Nat.add_mul]; congr 1; omega
              omega
          · cases hn
        · cases ht
    · cases hs
  · cases hs
theorem cells_run {ρ : Ren} {w : World} {sp : Spot} {b : Blk} (h : BlkOk ρ w sp b) {off n : Nat} (hle : off + n ≤ b.cells.length) :
    ∃ c : List Value, (loadCells ⟨sp.block, sp.off + off, none⟩ n).run P w = .ok c.toArray w ∧ c.length = n ∧ ∀ (j : Nat) (u : Value), ((b.cells.drop off).take n)[j]? = some u → ∃ v, c[j]? = some v ∧ VRel ρ u v := by
  have hc : ∀ j, j < n → ∃ x, w.cell? ((⟨sp.block, sp.off + off, none⟩ : Addr).add j) = some x ∧ ∀ u, b.cells[off + j]? = some u → VRel ρ u x := fun j hj => by
    obtain ⟨x, h1, h2⟩ := h.cell (j := off + j) (u := b.cells[off + j]) (List.getElem?_eq_getElem (by omega))
    refine ⟨x, by rw [add_at, Nat.add_assoc]; exact h1, fun u hu => ?_⟩
    rw [List.getElem?_eq_getElem (by omega)] at hu
    cases hu; exact h2
  let f : Nat → Value := fun j => (w.cell? ((⟨sp.block, sp.off + off, none⟩ : Addr).add j)).getD undef
  have hf : ∀ j, j < n → w.cell? ((⟨sp.block, sp.off + off, none⟩ : Addr).add j) = some (f j) := fun j hj => by
    obtain ⟨x, h1, _⟩ := hc j hj
    simp only [f, h1, Option.getD_some]
  refine ⟨(List.range n).map f, run_loadCells w _ n f hf, by simp, fun j u hu => ?_⟩
  have hj : j < n := by
    have := (List.getElem?_eq_some_iff.1 hu).1
    simp at this; omega
  obtain ⟨x, h1, h2⟩ := hc j hj
  refine ⟨x, ?_, h2 u ?_⟩
  · simp only [List.getElem?_map, List.getElem?_range hj, Option.map_some, f, h1, Option.getD_some]
  · rw [List.getElem?_take_of_lt hj, List.getElem?_drop] at hu; exact hu
def copyAt (P : Program) (ops : Array Oper) (S : St) (i : Nat) : Option (Nat × Nat × Nat × Nat × Nat × Nat × Nat) := match shapeAt ops S i with
  | some (.call c, true) => match c.callee with
    | .builtin b => match b with
      | .copy => match c.args.toList, c.argTypes.toList with
        | [x, y], t :: _ => match ev S x, ev S y with
          | some (.slice (some ⟨k, off, none⟩) n _), some (.slice (some ⟨k2, off2, none⟩) n2 _) => match elemSize P t with
            | some z => bif slcB P t then some (k, off, n, k2, off2, n2, z) else none
            | none => none
          | _, _ => none
        | _, _ => none
      | _ => none
    | _ => none
  | _ => none
theorem does_copy {k off n k2 off2 n2 z : Nat} {b b2 : Blk} (hs : copyAt P ops S i = some (k, off, n, k2, off2, n2, z)) (hH : S.H k = .live b) (hH2 : S.H k2 = .live b2)
    (hb : (b.own && plainAll ((b2.cells.drop off2).take (Nat.min n2 n * z)) && Nat.ble (off2 + Nat.min n2 n * z) b2.cells.length && Nat.ble (off + Nat.min n2 n * z) b.cells.length && Nat.ble 1 (Nat.min n2 n)) = true) :
    Does C P ops i S ⟨[k, k2], .int .i64 (Nat.min n2 n), [(k, .live ⟨setL b.cells off ((b2.cells.drop off2).take (Nat.min n2 n * z)), b.elem, true, b.step⟩)]⟩ := by
  unfold copyAt at hs
  split at hs
  · rename_i c hsh
    obtain ⟨cal, ars, ats⟩ := c
    simp only at hs
    split at hs
    · split at hs
      · split at hs
        · rename_i x y t ts hars hats
          split at hs
          · rename_i k' off' n' c' k2' off2' n2' c2' hx hy
            split at hs
            · rename_i z' hz
              obtain ⟨hsl, he⟩ := bif_some hs
              cases he
              have ea : ars = #[x, y] := by rw [← Array.toArray_toList (xs := ars), hars]
              subst ea
              have et : ats[0]? = some t := by rw [← Array.getElem?_toList, hats]; rfl
              refine .of_run hsh fun o ho S' ρ a w hT hH' hr => ?_
              simp only [Bool.and_eq_true] at hb
              obtain ⟨⟨⟨⟨b1, b2'⟩, b3⟩, b4⟩, b5⟩ := hb
              have hrx := ev_rel hr (by rw [hT x (by simp [Op.operands, Call.operands])]; exact hx)
              have hry := ev_rel hr (by rw [hT y (by simp [Op.operands, Call.operands])]; exact hy)
              generalize hax : a.eval x = ax at hrx
              generalize hay : a.eval y = ay at hry
              have l3 := Nat.le_of_ble_eq_true b3
              have l4 := Nat.le_of_ble_eq_true b4
              have l5 := Nat.le_of_ble_eq_true b5
              unfold slcB at hsl
              split at hsl
              · rename_i e hu
                unfold elemSize at hz
                rw [hu] at hz
                simp only [Option.map_eq_some_iff] at hz
                obtain ⟨inf, hinf, rfl⟩ := hz
                cases hrx with
                | slice0 => simp at l5
                | slice _ _ _ _ cap sp hk hc1 hs1 =>
                  cases hry with
                  | slice0 => simp at l5
                  | slice _ _ _ _ cap2 sp2 hk2 hc2 hs2 =>
                    have hHk : S'.H k = .live b := by rw [hH' k (by simp)]; exact hH
                    obtain ⟨q1, e1, e2⟩ := hr.heap.live k b hHk
                    rw [hk] at e1; cases e1
                    obtain ⟨q2, f1, f2⟩ := hr.heap.live k2 b2 (by rw [hH' k2 (by simp)]; exact hH2)
                    rw [hk2] at f1; cases f1
                    obtain ⟨cs, r0, rl, rc⟩ := cells_run (P := P) f2 (off := off2) (n := Nat.min n2 n * inf.size) l3
                    have hb2 := e2
                    rw [BlkOk.own b1] at hb2
                    obtain ⟨_, c, hg, hcs, hcl, hcc⟩ := hb2
                    have hlen : ((b2.cells.drop off2).take (Nat.min n2 n * inf.size)).length = Nat.min n2 n * inf.size := by simp; omega
                    have hget := setL_get ((b2.cells.drop off2).take (Nat.min n2 n * inf.size)) b.cells off (by rw [hlen]; exact l4)
                    obtain ⟨w', c', r1, r2, r3, r4, r5, r6, r7, r8, r9⟩ := run_storeCells (P := P) (ρ := ρ) (blk := sp.block) (o := sp.off) (e := b.elem) (fin := setL b.cells off ((b2.cells.drop off2).take (Nat.min n2 n * inf.size))) ((b2.cells.drop off2).take (Nat.min n2 n * inf.size)) cs w c off 0 hg
                      (by rw [hlen]; omega) (by rw [hlen, rl]) (fun u hu => List.all_eq_true.1 b2' u hu) rc
                      (fun j u hu => by
                        obtain ⟨hj, _⟩ := List.getElem?_eq_some_iff.1 hu
                        rw [hget, if_pos (by omega), show off + 0 + j - off = j by omega]; exact hu)
                      (fun j u hj hu => by
                        rw [hget, if_neg (by omega)] at hu
                        exact hcc j u hu)
                    refine ⟨_, w', ρ, .int .i64 (Nat.min n2 n), ?_, .inl rfl, .int _ _, Rel.write hr hHk b1 hk (by rw [setL_length]; omega) r2 (by rw [r3]; exact hcs) r4 r5 r6 r7 r8 r9⟩
                    have ev1 : (#[x, y] : Array Operand).map a.eval = #[.slice (some ⟨sp.block, sp.off + off, none⟩) n cap, .slice (some ⟨sp2.block, sp2.off + off2, none⟩) n2 cap2] := by simp [hax, hay]
                    simp only [execOp, ho, resolve, ev1, Sem.run_bind, Sem.run_pure, Result.andThen_ok, invoke, builtin, Builtin.copy_, et, List.getElem?_toArray, List.getElem?_cons_zero, List.getElem?_cons_succ, run_underlying hu, Builtin.lenOf, run_size hinf, Builtin.firstCells, r0, r1, goInt]
              · cases hsl
            · cases hs
          · cases hs
        · cases hs
      · cases hs
    · cases hs
  · cases hs
end
theorem u64_of_wf {n : Int} (h : (Lit.int .u64 n).wf = true) : 0 ≤ n ∧ n ≤ 18446744073709551615 := by
  simpa [Lit.wf, IntKind.min, IntKind.max, IntKind.signed, IntKind.bits] using h
end Go.Proofs.Ytigllakcfdoagaa.Am
