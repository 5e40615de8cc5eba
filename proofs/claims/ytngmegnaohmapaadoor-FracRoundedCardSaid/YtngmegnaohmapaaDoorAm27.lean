import Derived.Test.YtngmegnaohmapaaDoorAm22
import Derived.Test.YtngmegnaohmapaaDoorHu2
import Derived.Shelf.GgSortFunc.InsertionK
import Derived.Laws.IdiomStrings
import Derived.Laws.Runes
import Derived.Laws.DeepStrings4
import Derived.Laws.Concat
import Derived.Lib.LaidTab
import Derived.Lib.AppendIntMem
set_option linter.unusedVariables false
set_option linter.unusedSimpArgs false
namespace Go.Proofs.YtngmegnaohmapaaDoor.Am
open Go Go.Sort Go.Proofs
/-! ### 37. A sort of points: from the library's contract to ours -/
def leB (a b : Int × Int) : Bool := decide (a.1 < b.1) || (decide (a.1 = b.1) && decide (a.2 ≤ b.2))
theorem leB_iff (a b : Int × Int) : leB a b = true ↔ ¬ Sp.lxP b a := by unfold leB Sp.lxP; simp only [Bool.or_eq_true, Bool.and_eq_true, decide_eq_true_eq]; omega
theorem leB_trans (a b c : Int × Int) (h : leB a b = true) (k : leB b c = true) : leB a c = true := by unfold leB at *; simp only [Bool.or_eq_true, Bool.and_eq_true, decide_eq_true_eq] at *; omega
theorem leB_total (a b : Int × Int) : (leB a b || leB b a) = true := by unfold leB; simp only [Bool.or_eq_true, Bool.and_eq_true, decide_eq_true_eq]; omega
theorem leB_anti {a b : Int × Int} (h : leB a b = true) (k : leB b a = true) : a = b := by
  unfold leB at *; simp only [Bool.or_eq_true, Bool.and_eq_true, decide_eq_true_eq] at *
  exact Prod.ext (by omega) (by omega)
/-- the points in their order -/
def srtP (ps : List (Int × Int)) : List (Int × Int) := ps.mergeSort leB
theorem srtP_perm (ps) : (srtP ps).Perm ps := List.mergeSort_perm ps leB
theorem srtP_len (ps) : (srtP ps).length = ps.length := (srtP_perm ps).length_eq
theorem srtP_sorted (ps) : (srtP ps).Pairwise (fun a b => leB a b = true) := List.pairwise_mergeSort leB_trans leB_total ps
theorem sorted_uniq : ∀ {l l' : List (Int × Int)}, l.Perm l' → l.Pairwise (fun a b => leB a b = true) → l'.Pairwise (fun a b => leB a b = true) → l = l'
  | [], l', h, _, _ => (h.symm.eq_nil).symm
  | a :: r, l', h, p, p' => by
    cases l' with
    | nil => exact absurd h.eq_nil (by simp)
    | cons b r' =>
      have hp := List.pairwise_cons.1 p
      have hp' := List.pairwise_cons.1 p'
      have hab : a = b := by
        have ma : a ∈ b :: r' := h.mem_iff.1 (by simp)
        have mb : b ∈ a :: r := h.mem_iff.2 (by simp)
        rcases List.mem_cons.1 ma with k | k
        · exact k
        · rcases List.mem_cons.1 mb with q | q
          · exact q.symm
          · exact leB_anti (hp.1 b q) (hp'.1 a k)
      subst hab
      rw [sorted_uniq (List.Perm.cons_inv h) hp.2 hp'.2]
theorem pair_get : ∀ (ps : List (Int × Int)) (t : Nat), t < ps.length * 2 → (ps.flatMap ptc)[t]? = some ((ptc (ps.toArray[t / 2]!))[t % 2]!)
  | [], t, h => by simp at h
  | p :: r, 0, h => by simp [ptc]
  | p :: r, 1, h => by simp [ptc]
  | p :: r, t + 2, h => by
    have ih := pair_get r t (by simp at h; omega)
    rw [List.flatMap_cons]
    have e1 : (t + 2) / 2 = t / 2 + 1 := by omega
    have e2 : (t + 2) % 2 = t % 2 := by omega
    rw [e1, e2]
    have : (ptc p ++ r.flatMap ptc)[t + 2]? = (r.flatMap ptc)[t]? := by simp [ptc]
    rw [this, ih]
    simp
theorem flatK_get (ps : List (Int × Int)) (t : Nat) (h : t < ps.length * 2) : (ps.flatMap ptc)[t]? = some ((flatK ptc 2 ps.toArray)[t]!) := by
  rw [get_flatK ptc 2 ps.toArray t (by simpa using h)]; exact pair_get ps t h
theorem pairs_len (ps : List (Int × Int)) : (ps.flatMap ptc).length = ps.length * 2 := by rw [pairs_length]; omega
theorem flat_at {ps : List (Int × Int)} {i : Nat} {u : Value} (h : (ps.flatMap ptc)[i]? = some u) : i < ps.length * 2 ∧ u = (flatK ptc 2 ps.toArray)[i]! ∧ flatB u = true := by
  obtain ⟨hi, e⟩ := List.getElem?_eq_some_iff.1 h
  rw [pairs_len] at hi
  refine ⟨hi, ?_, ?_⟩
  · rw [flatK_get ps i hi] at h; exact (Option.some.inj h).symm
  · have : u ∈ ps.flatMap ptc := List.mem_of_getElem? h
    obtain ⟨p, _, hp⟩ := List.mem_flatMap.1 this
    simp only [ptc, List.mem_cons, List.not_mem_nil, or_false] at hp
    rcases hp with rfl | rfl <;> rfl
/-- what the sort's contract says of points -/
def SortsP (P : Program) (fid g : Nat) (lt : Int × Int → Int × Int → Bool) : Prop := ∀ (blk off cap : Nat) (d : Array (Int × Int)) (w : World), HoldsK ptc 2 w blk off d → blk < w.heap.size → d.size < 4611686018427387904 →
  Calls P fid #[.slice (some ⟨blk, off, none⟩) d.size cap, .func (.func g) #[] #[]] w fun e w' => e = .returned (.tuple #[]) ∧ ∃ d' n os, PermIn 0 d.size d d' ∧ SortedIn lt 0 d.size d' ∧ w' = sortWorldK ptc 2 w blk off n d' os
theorem sorted_list {lt : Int × Int → Int × Int → Bool} (hlt : ∀ a b, lt a b = !leB b a) {ps : List (Int × Int)} {d' : Array (Int × Int)} (hp : PermIn 0 ps.toArray.size ps.toArray d') (hs : SortedIn lt 0 ps.toArray.size d') : d'.toList = srtP ps := by
  obtain ⟨h1, _, h2⟩ := hp
  have e1 : d'.extract 0 ps.toArray.size = d' := by rw [← h1]; simp
  have e2 : (ps.toArray).extract 0 ps.toArray.size = ps.toArray := by simp
  rw [e1, e2] at h2
  refine sorted_uniq (h2.trans (srtP_perm ps).symm) ?_ (srtP_sorted ps)
  rw [List.pairwise_iff_getElem]
  intro i j hi hj hij
  have hi' : i < d'.size := by simpa using hi
  have hj' : j < d'.size := by simpa using hj
  have := hs i j (Nat.zero_le _) hij (by rw [← h1]; exact hj')
  rw [hlt] at this
  rw [getElem!_pos d' j hj', getElem!_pos d' i hi'] at this
  simpa using this
theorem ac_sort {P : Program} {fid g : Nat} {elem : TypeId} {lt : Int × Int → Int × Int → Bool} (hlt : ∀ a b, lt a b = !leB b a) (hc : SortsP P fid g lt) (ps : List (Int × Int)) (h1 : 0 < ps.length) (hz : ps.length < 4611686018427387904) :
    AC P fid 1 [.slice (some ⟨0, 0, none⟩) ps.length 0, .func (.func g) #[] #[]] [(0, ⟨ps.flatMap ptc, elem, true, 2⟩)] (.tuple #[]) [(0, ⟨(srtP ps).flatMap ptc, elem, true, 2⟩)] := by
  intro ρ w args' hl ha hp hlow hhigh
  obtain ⟨a0, g0, r0⟩ := ha 0 _ rfl
  obtain ⟨a1, g1, r1⟩ := ha 1 _ rfl
  obtain ⟨x, xs, rfl⟩ : ∃ x y, args' = #[x, y] := by
    have : args'.size = 2 := by rw [← hl]; rfl
    exact ⟨args'[0], args'[1], by apply Array.ext (by simpa using this); intro i h1 h2; match i, h2 with | 0, _ => rfl | 1, _ => rfl⟩
  simp only [List.getElem?_toArray, List.getElem?_cons_zero, Option.some.injEq, List.getElem?_cons_succ] at g0 g1
  subst g0; subst g1
  have r1' : xs = .func (.func g) #[] #[] := by
    cases r1 with
    | func _ _ ys _ ds e1 v1 e2 v2 =>
      have : ys = #[] := by apply Array.ext (by simpa using e1.symm) ; intro i h1 h2; simp at h2
      have : ds = #[] := by apply Array.ext (by simpa using e2.symm) ; intro i h1 h2; simp at h2
      subst_vars; rfl
  subst r1'
  have N0 : ∃ N, ps.length = N := ⟨_, rfl⟩
  obtain ⟨N, hN⟩ := N0
  rw [hN] at r0
  obtain ⟨sp, e0, bok⟩ := hp.live 0 ⟨ps.flatMap ptc, elem, true, 2⟩ (List.mem_singleton.2 rfl)
  rw [BlkOk.own (b := ⟨ps.flatMap ptc, elem, true, 2⟩) rfl] at bok
  obtain ⟨hst, c, hc1, hc2, hc3, hc4⟩ := bok
  have key : ∃ off cap, x = .slice (some ⟨sp.block, off, none⟩) ps.length cap ∧ off = sp.off := by
    cases r0 with
    | slice _ _ _ _ cap sp' h hc hs =>
      rw [e0, Option.some.injEq] at h
      subst h
      exact ⟨sp.off + 0, cap, by rw [hN], rfl⟩
    | slice0 => omega
  obtain ⟨off, cap, rfl, rfl⟩ := key
  have hblk : sp.block < w.heap.size := (Array.getElem?_eq_some_iff.1 hc1).1
  simp only [pairs_len] at hc3
  have hF : (flatK ptc 2 ps.toArray).size = ps.length * 2 := by simp
  have hH : HoldsK ptc 2 w sp.block sp.off ps.toArray := by
    intro j hj
    rw [hF] at hj
    have hu := flatK_get ps j hj
    obtain ⟨v, a, r⟩ := hc4 j _ hu
    have hv := r.eq_of_only (only_flat (flat_at hu).2.2)
    subst hv
    refine ⟨?_, ?_⟩
    · unfold World.cell?; rw [hc1]; exact a
    · unfold World.frozen?; rw [hc1]; simp
  have hcall := hc sp.block sp.off cap ps.toArray w hH hblk (by simpa using hz)
  refine Calls.mono hcall ?_
  rintro e w' ⟨he, d', n, os, hperm, hsort, rfl⟩
  have hd' := sorted_list hlt hperm hsort
  have hsz : d'.size = ps.length := by rw [← Array.length_toList, hd', srtP_len]
  have harr : (srtP ps).toArray = d' := by rw [← hd']
  have heap' : ∀ b, b < w.heap.size → (sortWorldK ptc 2 w sp.block sp.off n d' os).heap[b]? = if sp.block = b then (w.heap[b]?).map (onCells (putCells id sp.off (flatK ptc 2 d'))) else w.heap[b]? := by
    intro b hb
    show ((w.heap.modify sp.block (onCells (putCells id sp.off (flatK ptc 2 d')))) ++ os)[b]? = _
    rw [Array.getElem?_append_left (by simpa using hb), Array.getElem?_modify]
  refine ⟨.tuple #[], ρ, he, rel_flat rfl, fun _ _ => rfl, ⟨fun k b hk => ?_, fun k k' b b' sp1 sp2 hne h1 h2 => ?_⟩, fun k b sp1 hk hm => ?_, ⟨rfl, rfl, rfl, ?_, fun b hb hno => ?_⟩⟩
  · simp only [List.mem_singleton, Prod.mk.injEq] at hk
    obtain ⟨rfl, rfl⟩ := hk
    refine ⟨sp, e0, ?_⟩
    rw [BlkOk.own (b := ⟨(srtP ps).flatMap ptc, elem, true, 2⟩) rfl]
    refine ⟨hst, putCells id sp.off (flatK ptc 2 d') c, ?_, ?_, ?_, fun i u hu => ?_⟩
    · rw [heap' _ hblk, if_pos rfl, hc1]; rfl
    · rw [hc2]; unfold putCells; simp
    · simp only [pairs_len, srtP_len]; exact hc3
    · obtain ⟨g1, g2, g3⟩ := flat_at hu
      rw [srtP_len] at g1
      refine ⟨u, ?_, rel_flat g3⟩
      unfold putCells
      rw [Array.getElem?_mapIdx]
      have : sp.off + i < c.size := by omega
      rw [Array.getElem?_eq_getElem this]
      simp only [Option.map_some, Option.some.injEq]
      rw [if_pos (by rw [size_flatK, hsz]; omega), g2, harr, Nat.add_sub_cancel_left]; rfl
  · simp only [List.mem_singleton, Prod.mk.injEq] at h1 h2
    omega
  · simp only [List.mem_singleton, Prod.mk.injEq] at hm
    omega
  · show w.heap.size ≤ ((w.heap.modify sp.block _) ++ os).size
    simp
  · rw [heap' b hb, if_neg (fun q => hno ⟨0, ⟨ps.flatMap ptc, elem, true, 2⟩, sp, List.mem_singleton.2 rfl, rfl, e0, q⟩)]
end Go.Proofs.YtngmegnaohmapaaDoor.Am

set_option linter.unusedVariables false
set_option linter.unusedSimpArgs false
namespace Go.Proofs.YtngmegnaohmapaaDoor.Am
open Go
/-! ### 38. A block is told by less; clear of the end of a row -/
theorem aw_shrink {C : Ctx} {P : Program} {Q : Exit → St → Prop} {c : Code} {S : St} (k : Nat) (b : Blk) (l : List Value) (m : Nat) (h : AW C P c ⟨S.T, wr [(k, .live ⟨l, b.elem, true, b.step⟩)] S.H⟩ Q)
    (hl : l = b.cells.take m) (ho : b.own = true := by kernel_rfl) (hk : S.H k = .live b := by kernel_rfl) : AW C P c S Q := by
  intro ρ a w hr
  obtain ⟨sp, e0, bok⟩ := hr.heap.live k b hk
  have hb := bok
  rw [BlkOk.own ho] at hb
  obtain ⟨h1, cc, hc1, hc2, hc3, hc4⟩ := hb
  refine h ρ a w (Rel.write hr hk ho e0 (cells := l) ?_ hc1 hc2 (fun j u hu => ?_) rfl rfl rfl rfl (fun _ _ => rfl))
  · rw [hl, List.length_take]; omega
  · rw [hl, List.getElem?_take] at hu
    split at hu
    · exact hc4 j u hu
    · cases hu
theorem al_shrink {C : Ctx} {P : Program} {Q : Exit → St → Prop} {c : Code} {S : St} (k : Nat) (b : Blk) (l : List Value) (m : Nat) (h : AL C P c ⟨S.T, wr [(k, .live ⟨l, b.elem, true, b.step⟩)] S.H⟩ Q)
    (hl : l = b.cells.take m) (ho : b.own = true := by kernel_rfl) (hk : S.H k = .live b := by kernel_rfl) : AL C P c S Q := by
  intro ρ a w hr
  obtain ⟨sp, e0, bok⟩ := hr.heap.live k b hk
  have hb := bok
  rw [BlkOk.own ho] at hb
  obtain ⟨h1, cc, hc1, hc2, hc3, hc4⟩ := hb
  refine h ρ a w (Rel.write hr hk ho e0 (cells := l) ?_ hc1 hc2 (fun j u hu => ?_) rfl rfl rfl rfl (fun _ _ => rfl))
  · rw [hl, List.length_take]; omega
  · rw [hl, List.getElem?_take] at hu
    split at hu
    · exact hc4 j u hu
    · cases hu
theorem take_pairs {ps : List (Int × Int)} {off k : Nat} (ho : off = 2 * k) : (ps.take k).flatMap ptc = (ps.flatMap ptc).take off := by
  have := cut_pairs (ps := ps) (off := 0) (j := 0) (m := off) (k := k) (by omega) ho
  rw [List.drop_zero, List.drop_zero] at this; exact this.symm
section
variable {C : Ctx} {P : Program} {ops : Array Oper} {S : St} {i : Nat}
def clearAt (P : Program) (ops : Array Oper) (S : St) (i : Nat) : Option (Nat × Nat × Nat × TypeId × Nat × Value) := match shapeAt ops S i with
  | some (.call c, true) => match c.callee with
    | .builtin b => match b with
      | .clear => match c.args.toList, c.argTypes.toList with
        | [x], [t] => match ev S x with
          | some (.slice (some ⟨k, off, none⟩) n _) => match sliceElem P t with
            | some e => match P.info? e with
              | some inf => match inf.zero with
                | some z => some (k, off, n, e, inf.size, z)
                | none => none
              | none => none
            | none => none
          | _ => none
        | _, _ => none
      | _ => none
    | _ => none
  | _ => none
/-- clear of a row from a place on: its beginning is told on -/
theorem does_clear {k off n e z : Nat} {b : Blk} {zv : Value} (l : List Value) (hs : clearAt P ops S i = some (k, off, n, e, z, zv)) (hH : S.H k = .live b) (ho : b.own = true) (hf : zv.cells.toList.all (fun u => flatB u && plainB u) = true) (hz : zv.cells.size = z)
    (hn : 1 ≤ n) (hl : l = b.cells.take off) (hle : off + n * z ≤ b.cells.length) :
    Does C P ops i S ⟨[k], .tuple #[], [(k, .live ⟨l, b.elem, true, b.step⟩)]⟩ := by
  unfold clearAt at hs
  split at hs
  · rename_i c hsh
    obtain ⟨cal, ars, ats⟩ := c
    simp only at hs
    split at hs
    · split at hs
      · split at hs
        · rename_i x t hars hats
          split at hs
          · rename_i k' off' n' c' hx
            split at hs
            · rename_i e' he
              split at hs
              · rename_i inf hi
                split at hs
                · rename_i z' hzz
                  simp only [Option.some.injEq, Prod.mk.injEq] at hs
                  obtain ⟨rfl, rfl, rfl, rfl, rfl, rfl⟩ := hs
                  have ea : ars = #[x] := by rw [← Array.toArray_toList (xs := ars), hars]
                  subst ea
                  have et : ats[0]? = some t := by rw [← Array.getElem?_toList, hats]; rfl
                  refine .of_run hsh fun o hop S' ρ a w hT hH' hr => ?_
                  have hu : P.underlying t = some (.slice e') := sliceElem_spec he
                  have hrx := ev_rel hr (by rw [hT x (by simp [Op.operands, Call.operands])]; exact hx)
                  generalize hax : a.eval x = ax at hrx
                  cases hrx with
                  | slice0 => omega
                  | slice _ _ _ _ cap sp hk hc1 hs1 =>
                    have hHk : S'.H k' = .live b := by rw [hH' k' (by simp)]; exact hH
                    obtain ⟨q1, e1, e2⟩ := hr.heap.live k' b hHk
                    rw [hk] at e1; cases e1
                    have hb2 := e2
                    rw [BlkOk.own ho] at hb2
                    obtain ⟨_, cc, hg, hcs, hcl, hcc⟩ := hb2
                    have hzs : (Builtin.zeroCells z'.cells n').toList.length = n' * inf.size := by unfold Builtin.zeroCells; simp [hz]
                    have hzf : ∀ u ∈ (Builtin.zeroCells z'.cells n').toList, flatB u = true ∧ plainB u = true := by
                      intro u hu
                      unfold Builtin.zeroCells at hu
                      rw [Array.toList_map, List.mem_map] at hu
                      obtain ⟨j, hj, rfl⟩ := hu
                      have hj' : j < n' * z'.cells.size := by simpa using hj
                      have hlt : j % z'.cells.size < z'.cells.size := Nat.mod_lt _ (by rcases Nat.eq_zero_or_pos z'.cells.size with q | q; rw [q] at hj'; simp at hj'; exact q)
                      rw [getElem!_pos z'.cells (j % z'.cells.size) hlt]
                      have := List.all_eq_true.1 hf (z'.cells[j % z'.cells.size]) (by simp)
                      rwa [Bool.and_eq_true] at this
                    have hget := setL_get (Builtin.zeroCells z'.cells n').toList b.cells off' (by rw [hzs]; exact hle)
                    obtain ⟨w', c', r1, r2, r3, r4, r5, r6, r7, r8, r9⟩ := run_storeCells (P := P) (ρ := ρ) (blk := sp.block) (o := sp.off) (e := b.elem) (fin := setL b.cells off' (Builtin.zeroCells z'.cells n').toList) (Builtin.zeroCells z'.cells n').toList (Builtin.zeroCells z'.cells n').toList w cc off' 0 hg
                      (by rw [hzs]; omega) rfl (fun u hu => (hzf u hu).2) (fun j u hu => ⟨u, hu, .of_only (only_flat (hzf u (List.mem_of_getElem? hu)).1)⟩)
                      (fun j u hu => by
                        obtain ⟨hj, _⟩ := List.getElem?_eq_some_iff.1 hu
                        rw [hget, if_pos (by omega), show off' + 0 + j - off' = j by omega]; exact hu)
                      (fun j u hj hu => by
                        rw [hget, if_neg (by omega)] at hu
                        exact hcc j u hu)
                    refine ⟨_, w', ρ, .tuple #[], ?_, .inl rfl, .of_only (only_flat rfl), Rel.write hr hHk ho hk (cells := l) (by rw [hl, List.length_take]; omega) r2 (by rw [r3]; exact hcs) (fun j u hu => ?_) r5 r6 r7 r8 r9⟩
                    · have ev1 : (#[x] : Array Operand).map a.eval = #[.slice (some ⟨sp.block, sp.off + off', none⟩) n' cap] := by simp [hax]
                      obtain ⟨m, rfl⟩ : ∃ m, n' = m + 1 := ⟨n' - 1, by omega⟩
                      have hzr := run_zero (P := P) (w := w) hi hzz
                      simp only [execOp, hop, resolve, ev1, Sem.run_bind, Sem.run_pure, Result.andThen_ok, invoke, builtin, Builtin.clear_, et, List.getElem?_toArray, List.getElem?_cons_zero, run_underlying hu, hzr, r1]
                    · rw [hl, List.getElem?_take] at hu
                      split at hu
                      · refine r4 j u ?_
                        rw [hget, if_neg (by omega)]; exact hu
                      · cases hu
                · cases hs
              · cases hs
            · cases hs
          · cases hs
        · cases hs
      · cases hs
    · cases hs
  · cases hs
end
end Go.Proofs.YtngmegnaohmapaaDoor.Am

set_option linter.unusedVariables false
set_option linter.unusedSimpArgs false
namespace Go.Proofs.YtngmegnaohmapaaDoor.Am
open Go Go.Sort Go.Proofs
/-! ### 39. append to the rest of a row; a sort of numbers -/
section
variable {C : Ctx} {P : Program} {ops : Array Oper} {S : St} {i : Nat}
theorem does_apo (k' e z bt k off n k2 m : Nat) (b b2 : Blk) (l : List Value) (h1 : apyAt P ops S i = some (e, z, bt, some (.slice (some ⟨k, off, none⟩) n 0), some (.slice (some ⟨k2, 0, none⟩) m 0)))
    (hH : S.H k = .live b) (hH2 : S.H k2 = .live b2) (hK : S.H k' = .fresh)
    (hz : (b.own && Nat.beq b.elem e && Nat.beq b.step z && plainAll b2.cells && Nat.beq (m * z) b2.cells.length && Nat.ble 1 m) = true) (hn : off + n * z ≤ b.cells.length)
    (hB : (n + m) * bt ≤ 140737488355328) (hM : n + m ≤ 4611686018427387904) (hl : (b.cells.drop off).take (n * z) ++ b2.cells = l) :
    Does C P ops i S ⟨[k, k2, k'], .slice (some ⟨k', 0, none⟩) (n + m) 0, [(k, .gone), (k', .live ⟨l, e, true, z⟩)]⟩ := by
  unfold apyAt at h1
  split at h1
  · rename_i x y t e' inf zv hs
    simp only [Option.some.injEq, Prod.mk.injEq] at h1
    obtain ⟨rfl, rfl, rfl, hx, hy⟩ := h1
    simp only [Bool.and_eq_true] at hz
    obtain ⟨⟨⟨⟨⟨z1, z2⟩, z3⟩, z4⟩, z5⟩, z6⟩ := hz
    have q := Nat.eq_of_beq_eq_true z5
    have e2 : (b2.cells.drop 0).take (m * inf.size) = b2.cells := by rw [List.drop_zero, q, List.take_length]
    have h := does_append (C := C) (P := P) (ops := ops) (S := S) (i := i) hs hx hy hH hH2 hK (by
      simp only [Bool.and_eq_true, e2]
      refine ⟨⟨⟨⟨⟨⟨z1, z2⟩, z3⟩, z4⟩, Nat.ble_eq_true_of_le hn⟩, Nat.ble_eq_true_of_le (by omega)⟩, z6⟩) hB hM
    rw [e2, hl] at h
    exact h
  · cases h1
end
/-- the rest of a row of pairs, and what is put behind it -/
theorem rest_pairs {g td : List (Int × Int)} {off m : Nat} {l : List Value} (ho : off = 2 * g.length) (hm : m = 2 * td.length) : ((((g ++ td).flatMap ptc).drop off).take m) ++ l = td.flatMap ptc ++ l := by
  rw [cut_pairs (j := g.length) (k := td.length) ho hm, List.drop_left, List.take_length]
theorem ldV_c0 {P : Program} {t : TypeId} {ps : List (Int × Int)} {off j : Nat} (ha : aggB P t = some false) (hi : (P.info? t).isSome = true) (ho : off = 2 * j) (h : j < ps.length) : ldV P t (ps.flatMap ptc) off = some (.int .i64 (ps.getD j (0, 0)).1) := by
  unfold ldV
  obtain ⟨inf, hinf⟩ := Option.isSome_iff_exists.1 hi
  rw [hinf]
  simp only [ha]
  subst ho
  have e : (ps.flatMap ptc)[2 * j]? = ((ps.flatMap ptc).drop (2 * j))[0]? := by rw [List.getElem?_drop]; rfl
  rw [e, pairs_drop, List.drop_eq_getElem_cons h, List.flatMap_cons]
  simp [ptc, List.getD, List.getElem?_eq_getElem h]
theorem ldV_c1 {P : Program} {t : TypeId} {ps : List (Int × Int)} {off j : Nat} (ha : aggB P t = some false) (hi : (P.info? t).isSome = true) (ho : off = 2 * j + 1) (h : j < ps.length) : ldV P t (ps.flatMap ptc) off = some (.int .i64 (ps.getD j (0, 0)).2) := by
  unfold ldV
  obtain ⟨inf, hinf⟩ := Option.isSome_iff_exists.1 hi
  rw [hinf]
  simp only [ha]
  subst ho
  have e : (ps.flatMap ptc)[2 * j + 1]? = ((ps.flatMap ptc).drop (2 * j))[1]? := by rw [List.getElem?_drop]
  rw [e, pairs_drop, List.drop_eq_getElem_cons h, List.flatMap_cons]
  simp [ptc, List.getD, List.getElem?_eq_getElem h]
def SortsI (P : Program) (fid : Nat) : Prop := ∀ (blk off cap : Nat) (zs : List Int) (w : World), Holds (Value.int .i64) w blk off zs.toArray → blk < w.heap.size → zs.length < 4611686018427387904 →
  Calls P fid #[.slice (some ⟨blk, off, none⟩) zs.length cap] w fun e w' => e = .returned (.tuple #[]) ∧ ∃ n os, w' = grow (putRow (Value.int .i64) (Sort.ahead w n) blk off (zs.mergeSort fun x y => decide (x ≤ y)).toArray) os
theorem ac_sortI {P : Program} {fid : Nat} {elem : TypeId} (hc : SortsI P fid) (ps : List Int) (h1 : 0 < ps.length) (hz : ps.length < 4611686018427387904) :
    AC P fid 1 [.slice (some ⟨0, 0, none⟩) ps.length 0] [(0, ⟨ps.map i64v, elem, true, 1⟩)] (.tuple #[]) [(0, ⟨(ps.mergeSort fun x y => decide (x ≤ y)).map i64v, elem, true, 1⟩)] := by
  intro ρ w args' hl ha hp hlow hhigh
  obtain ⟨a0, g0, r0⟩ := ha 0 _ rfl
  obtain ⟨x, rfl⟩ : ∃ x, args' = #[x] := by
    have : args'.size = 1 := by rw [← hl]; rfl
    exact ⟨args'[0], by apply Array.ext (by simpa using this); intro i h1 h2; match i, h2 with | 0, _ => rfl⟩
  simp only [List.getElem?_toArray, List.getElem?_cons_zero, Option.some.injEq] at g0
  subst g0
  have N0 : ∃ N, ps.length = N := ⟨_, rfl⟩
  obtain ⟨N, hN⟩ := N0
  rw [hN] at r0
  obtain ⟨sp, e0, bok⟩ := hp.live 0 ⟨ps.map i64v, elem, true, 1⟩ (List.mem_singleton.2 rfl)
  rw [BlkOk.own (b := ⟨ps.map i64v, elem, true, 1⟩) rfl] at bok
  obtain ⟨hst, c, hc1, hc2, hc3, hc4⟩ := bok
  have key : ∃ off cap, x = .slice (some ⟨sp.block, off, none⟩) ps.length cap ∧ off = sp.off := by
    cases r0 with
    | slice _ _ _ _ cap sp' h hc hs =>
      rw [e0, Option.some.injEq] at h
      subst h
      exact ⟨sp.off + 0, cap, by rw [hN], rfl⟩
    | slice0 => omega
  obtain ⟨off, cap, rfl, rfl⟩ := key
  have hblk : sp.block < w.heap.size := (Array.getElem?_eq_some_iff.1 hc1).1
  simp only [List.length_map] at hc3
  have hH : Holds (Value.int .i64) w sp.block sp.off ps.toArray := by
    intro j hj
    have hj' : j < ps.length := by simpa using hj
    obtain ⟨v, a, r⟩ := hc4 j (.int .i64 ps[j]) (by simp [i64v, hj'])
    have hv := r.eq_of_only (only_flat rfl)
    subst hv
    refine ⟨?_, ?_⟩
    · unfold World.cell?; rw [hc1]; simpa [hj'] using a
    · unfold World.frozen?; rw [hc1]; simp
  have hcall := hc sp.block sp.off cap ps w hH hblk hz
  refine Calls.mono hcall ?_
  rintro e w' ⟨he, n, os, rfl⟩
  obtain ⟨qs, hqs⟩ : ∃ qs, (ps.mergeSort fun x y => decide (x ≤ y)) = qs := ⟨_, rfl⟩
  have hql : qs.length = ps.length := by rw [← hqs]; exact (List.mergeSort_perm _ _).length_eq
  rw [hqs]
  have heap' : ∀ b, b < w.heap.size → (grow (putRow (Value.int .i64) (Sort.ahead w n) sp.block sp.off qs.toArray) os).heap[b]? = if sp.block = b then (w.heap[b]?).map (onCells (putCells (Value.int .i64) sp.off qs.toArray)) else w.heap[b]? := by
    intro b hb
    show ((w.heap.modify sp.block (onCells (putCells (Value.int .i64) sp.off qs.toArray))) ++ os)[b]? = _
    rw [Array.getElem?_append_left (by simpa using hb), Array.getElem?_modify]
  refine ⟨.tuple #[], ρ, he, rel_flat rfl, fun _ _ => rfl, ⟨fun k b hk => ?_, fun k k' b b' sp1 sp2 hne h1 h2 => ?_⟩, fun k b sp1 hk hm => ?_, ⟨rfl, rfl, rfl, ?_, fun b hb hno => ?_⟩⟩
  · simp only [List.mem_singleton, Prod.mk.injEq] at hk
    obtain ⟨rfl, rfl⟩ := hk
    refine ⟨sp, e0, ?_⟩
    rw [BlkOk.own (b := ⟨qs.map i64v, elem, true, 1⟩) rfl]
    refine ⟨hst, putCells (Value.int .i64) sp.off qs.toArray c, ?_, ?_, ?_, fun i u hu => ?_⟩
    · rw [heap' _ hblk, if_pos rfl, hc1]; rfl
    · rw [hc2]; unfold putCells; simp
    · simp only [List.length_map, hql]; exact hc3
    · obtain ⟨hi, hu'⟩ := List.getElem?_eq_some_iff.1 hu
      rw [List.length_map] at hi
      rw [List.getElem_map] at hu'
      subst hu'
      refine ⟨.int .i64 qs[i], ?_, rel_flat rfl⟩
      unfold putCells
      rw [Array.getElem?_mapIdx]
      have : sp.off + i < c.size := by omega
      rw [Array.getElem?_eq_getElem this]
      simp only [Option.map_some, Option.some.injEq]
      rw [if_pos (by simp; omega), Nat.add_sub_cancel_left]
      simp [hi]
  · simp only [List.mem_singleton, Prod.mk.injEq] at h1 h2
    omega
  · simp only [List.mem_singleton, Prod.mk.injEq] at hm
    omega
  · show w.heap.size ≤ ((w.heap.modify sp.block _) ++ os).size
    simp
  · rw [heap' b hb, if_neg (fun q => hno ⟨0, ⟨ps.map i64v, elem, true, 1⟩, sp, List.mem_singleton.2 rfl, rfl, e0, q⟩)]
end Go.Proofs.YtngmegnaohmapaaDoor.Am

namespace Go.Proofs.YtngmegnaohmapaaDoor.Am
open Go
set_option linter.unusedVariables false
/-! ### 40. Strings told by lists of bytes -/
def u8v (b : UInt8) : Value := .int .u8 (b.toNat : Int)
theorem flat_u8 (l : List UInt8) : (l.map u8v).all flatB = true := flats_map (fun _ => rfl) l
section
variable {C : Ctx} {P : Program} {ops : Array Oper} {i : Nat} {S : St}
theorem does_scat {t t2 : TypeId} {x y : Operand} (a b : List UInt8) (hs : shapeAt ops S i = some (.binOp .add t x y t2, true)) (hx : ev S x = some (.string (ByteArray.mk a.toArray))) (hy : ev S y = some (.string (ByteArray.mk b.toArray))) (hz : a.length + b.length ≤ 9223372036854775807) :
    Does C P ops i S ⟨[], .string (ByteArray.mk (a ++ b).toArray), []⟩ :=
  .of_run hs fun o ho S' ρ ac w hT _ hr => by
    have h1 := (ev_rel hr (by rw [hT x (by simp [Op.operands])]; exact hx)).eq_of_only (.string _)
    have h2 := (ev_rel hr (by rw [hT y (by simp [Op.operands])]; exact hy)).eq_of_only (.string _)
    have h3 := run_string_add_sum (P := P) w (ByteArray.mk a.toArray) (ByteArray.mk b.toArray) (by simpa [ByteArray.size] using hz)
    refine ⟨_, w, ρ, .string (ByteArray.mk (a ++ b).toArray), ?_, .inl rfl, .string _, hr⟩
    have e : ByteArray.mk a.toArray ++ ByteArray.mk b.toArray = ByteArray.mk (a ++ b).toArray := ByteArray.mk_append_mk ..
    rw [e] at h3
    simp [execOp, ho, h1, h2, eqGuard, binOp, h3]
theorem does_seq {t t2 : TypeId} {x y : Operand} (a b : List UInt8) (hs : shapeAt ops S i = some (.binOp .eql t x y t2, true)) (hx : ev S x = some (.string (ByteArray.mk a.toArray))) (hy : ev S y = some (.string (ByteArray.mk b.toArray))) :
    Does C P ops i S ⟨[], .bool (a == b), []⟩ :=
  .of_run hs fun o ho S' ρ ac w hT _ hr => by
    have h1 := (ev_rel hr (by rw [hT x (by simp [Op.operands])]; exact hx)).eq_of_only (.string _)
    have h2 := (ev_rel hr (by rw [hT y (by simp [Op.operands])]; exact hy)).eq_of_only (.string _)
    exact ⟨_, w, ρ, .bool (a == b), by simp [execOp, ho, h1, h2, eqGuard, binOp, Op.stringOp], .inl rfl, .bool _, hr⟩
theorem does_sne {t t2 : TypeId} {x y : Operand} (a b : List UInt8) (hs : shapeAt ops S i = some (.binOp .neq t x y t2, true)) (hx : ev S x = some (.string (ByteArray.mk a.toArray))) (hy : ev S y = some (.string (ByteArray.mk b.toArray))) :
    Does C P ops i S ⟨[], .bool (!(a == b)), []⟩ :=
  .of_run hs fun o ho S' ρ ac w hT _ hr => by
    have h1 := (ev_rel hr (by rw [hT x (by simp [Op.operands])]; exact hx)).eq_of_only (.string _)
    have h2 := (ev_rel hr (by rw [hT y (by simp [Op.operands])]; exact hy)).eq_of_only (.string _)
    exact ⟨_, w, ρ, .bool (!(a == b)), by simp [execOp, ho, h1, h2, eqGuard, binOp, Op.stringOp], .inl rfl, .bool _, hr⟩
def strB (P : Program) (t : TypeId) : Bool := match P.underlying t with
  | some .string => true
  | _ => false
theorem strB_spec {P : Program} {t : TypeId} (h : strB P t = true) : P.underlying t = some .string := by
  unfold strB at h; split at h
  · assumption
  · cases h
theorem mk_size (l : List UInt8) : (ByteArray.mk l.toArray).size = l.length := by simp [ByteArray.size]
theorem does_slen {x : Operand} (t : TypeId) (l : List UInt8) (hs : shapeAt ops S i = some (.call ⟨.builtin .len, #[x], #[t]⟩, true)) (hx : ev S x = some (.string (ByteArray.mk l.toArray))) (ht : strB P t = true) (hl : l.length ≤ 9223372036854775807) :
    Does C P ops i S ⟨[], .int .i64 ((l.length : Nat) : Int), []⟩ :=
  .of_run hs fun o ho S' ρ ac w hT _ hr => by
    have h1 := (ev_rel hr (by rw [hT x (by simp [Op.operands, Call.operands])]; exact hx)).eq_of_only (.string _)
    refine ⟨_, w, ρ, .int .i64 ((l.length : Nat) : Int), ?_, .inl rfl, .int _ _, hr⟩
    have h3 := fun ty => run_len_string (P := P) w t ty (ByteArray.mk l.toArray) (strB_spec ht)
    simp [execOp, ho, h1, resolve, invoke, builtin, h3, mk_size, goInt]
theorem does_six {t : TypeId} {x y : Operand} {k : IntKind} {j : Int} (l : List UInt8) (n : Nat) (hs : shapeAt ops S i = some (.index t x y, true)) (hx : ev S x = some (.string (ByteArray.mk l.toArray))) (hy : ev S y = some (.int k j)) (ht : strB P t = true) (hj : j = (n : Int)) (hn : n < l.length) :
    Does C P ops i S ⟨[], .int .u8 ((l.getD n 0).toNat : Int), []⟩ :=
  .of_run hs fun o ho S' ρ ac w hT _ hr => by
    have h1 := (ev_rel hr (by rw [hT x (by simp [Op.operands])]; exact hx)).eq_of_only (.string _)
    have h2 := (ev_rel hr (by rw [hT y (by simp [Op.operands])]; exact hy)).eq_of_only (.int _ _)
    subst hj
    refine ⟨_, w, ρ, .int .u8 ((l.getD n 0).toNat : Int), ?_, .inl rfl, .int _ _, hr⟩
    have h3 := run_index_string (P := P) w t (ByteArray.mk l.toArray) k (n : Int) (strB_spec ht)
    rw [dif_pos ⟨by omega, by rw [mk_size]; omega⟩] at h3
    have e : ((ByteArray.mk l.toArray)[(n : Int).toNat]'(by rw [mk_size]; omega)) = l.getD n 0 := by
      simp only [Int.toNat_natCast]
      show (l.toArray)[n]'(by simpa using hn) = _
      simp [List.getD_eq_getElem?_getD, hn]
    rw [e] at h3
    simp [execOp, ho, h1, h2, h3]
theorem does_sfrom {t : TypeId} {x y : Operand} {k : IntKind} {j : Int} (l : List UInt8) (n : Nat) (hs : shapeAt ops S i = some (.slice t x (some y) none none, true)) (hx : ev S x = some (.string (ByteArray.mk l.toArray))) (hy : ev S y = some (.int k j)) (ht : strB P t = true) (hj : j = (n : Int)) (hn : n ≤ l.length) :
    Does C P ops i S ⟨[], .string (ByteArray.mk (l.drop n).toArray), []⟩ :=
  .of_run hs fun o ho S' ρ ac w hT _ hr => by
    have h1 := (ev_rel hr (by rw [hT x (by simp [Op.operands])]; exact hx)).eq_of_only (.string _)
    have h2 := (ev_rel hr (by rw [hT y (by simp [Op.operands])]; exact hy)).eq_of_only (.int _ _)
    subst hj
    refine ⟨_, w, ρ, .string (ByteArray.mk (l.drop n).toArray), ?_, .inl rfl, .string _, hr⟩
    have h3 := run_slice_string_from_if (P := P) w t (ByteArray.mk l.toArray) k (n : Int) (strB_spec ht)
    rw [if_pos ⟨by omega, by rw [mk_size]; omega⟩, ByteArray.extract_mk, mk_size, Int.toNat_natCast, List.take_of_length_le (by simp)] at h3
    simp [execOp, ho, h1, h2, run_sliceAt_string (P := P) w t _ _ _ _ (strB_spec ht), h3]
theorem does_sto {t : TypeId} {x y : Operand} {k : IntKind} {j : Int} (l : List UInt8) (n : Nat) (hs : shapeAt ops S i = some (.slice t x none (some y) none, true)) (hx : ev S x = some (.string (ByteArray.mk l.toArray))) (hy : ev S y = some (.int k j)) (ht : strB P t = true) (hj : j = (n : Int)) (hn : n ≤ l.length) :
    Does C P ops i S ⟨[], .string (ByteArray.mk (l.take n).toArray), []⟩ :=
  .of_run hs fun o ho S' ρ ac w hT _ hr => by
    have h1 := (ev_rel hr (by rw [hT x (by simp [Op.operands])]; exact hx)).eq_of_only (.string _)
    have h2 := (ev_rel hr (by rw [hT y (by simp [Op.operands])]; exact hy)).eq_of_only (.int _ _)
    subst hj
    refine ⟨_, w, ρ, .string (ByteArray.mk (l.take n).toArray), ?_, .inl rfl, .string _, hr⟩
    have h3 := run_slice_string_to_if (P := P) w t (ByteArray.mk l.toArray) k (n : Int) (strB_spec ht)
    rw [if_pos ⟨by omega, by rw [mk_size]; omega⟩, ByteArray.extract_mk, Int.toNat_natCast, Nat.sub_zero, List.drop_zero] at h3
    simp [execOp, ho, h1, h2, run_sliceAt_string (P := P) w t _ _ _ _ (strB_spec ht), h3]
theorem encode_ascii {n : Int} (h0 : 0 ≤ n) (h1 : n < 128) : Utf8.encode n = ByteArray.mk [UInt8.ofNat n.toNat].toArray := by
  have hv : Utf8.valid n = true := by unfold Utf8.valid; simp; omega
  unfold Utf8.encode
  simp only [hv, if_true]
  rw [if_pos (by omega)]
theorem does_rune {src dst : TypeId} {x : Operand} {k : IntKind} {n : Int} (hs : shapeAt ops S i = some (.convert src dst x, true)) (hx : ev S x = some (.int k n)) (hsrc : (P.underlying src).isSome = true) (ht : strB P dst = true) (h0 : 0 ≤ n) (h1 : n < 128) :
    Does C P ops i S ⟨[], .string (ByteArray.mk [UInt8.ofNat n.toNat].toArray), []⟩ :=
  .of_run hs fun o ho S' ρ ac w hT _ hr => by
    have h2 := (ev_rel hr (by rw [hT x (by simp [Op.operands])]; exact hx)).eq_of_only (.int _ _)
    refine ⟨_, w, ρ, .string (ByteArray.mk [UInt8.ofNat n.toNat].toArray), ?_, .inl rfl, .string _, hr⟩
    have h3 := run_convert_int_string (P := P) w src dst k n hsrc (strB_spec ht)
    rw [encode_ascii h0 h1] at h3
    simp [execOp, ho, h2, h3]
/-- A new block that is only read. -/
theorem Rel.newRo {ρ : Ren} {a : Act} {w : World} (h : Rel C ρ S a w) {k : Nat} (hk : S.H k = .fresh) {cells : List Value} {c : Array Value} {e : TypeId} {fr : Nat × Nat} {st : Nat}
    (hc : ∀ (j : Nat) (u : Value), cells[j]? = some u → ∃ v, c[j]? = some v ∧ VRel ρ u v) :
    Rel C (upd ρ k (some ⟨w.heap.size, 0, c.size, st⟩)) ⟨S.T, wr [(k, .live ⟨cells, e, false, st⟩)] S.H⟩ a (w.alloc (.cells c e fr)) := by
  have hn := h.heap.fresh k hk
  have hle := Ren.le_upd (ρ := ρ) ⟨w.heap.size, 0, c.size, st⟩ hn
  have old : ∀ k' b sp, k' ≠ k → S.H k' = .live b → upd ρ k (some ⟨w.heap.size, 0, c.size, st⟩) k' = some sp → ρ k' = some sp ∧ (¬ Void b → sp.block < w.heap.size) := fun k' b sp hne hb hsp => by
    rw [upd_ne _ _ hne] at hsp
    obtain ⟨sp', h1, h2⟩ := h.heap.live k' b hb
    rw [hsp] at h1; cases h1
    exact ⟨hsp, fun nv => h2.lt nv⟩
  rw [wr_one]
  refine ⟨h.size, h.defers, fun t v hv => ?_, ⟨fun k' (hf : upd S.H k _ k' = .fresh) => ?_, fun k' b (hb : upd S.H k _ k' = .live b) => ?_, ?_⟩, ⟨h.frame.os, h.frame.tape, h.frame.output, ?_, fun b hb hW => ?_⟩, fun k' b sp (hb : upd S.H k _ k' = .live b) ho hsp => ?_, fun k' hk' => ?_⟩
  · obtain ⟨v', h1, h2⟩ := h.temps t v hv
    exact ⟨v', h1, h2.mono hle⟩
  · by_cases e : k' = k
    · subst e; rw [upd_self] at hf; cases hf
    · rw [upd_ne _ _ e] at hf ⊢; exact h.heap.fresh k' hf
  · by_cases e : k' = k
    · subst e; rw [upd_self] at hb; cases hb
      refine ⟨_, upd_self _ _ _, ?_⟩
      rw [BlkOk.ro (fun q => by cases q)]
      refine ⟨rfl, .inr (by simp), fun j u hu => let ⟨v, h1, h2⟩ := hc j u hu; ⟨v, ?_, h2.mono hle⟩⟩
      rw [Nat.zero_add, World.cell?_alloc_mark]; exact h1
    · rw [upd_ne _ _ e] at hb
      obtain ⟨sp, h1, h2⟩ := h.heap.live k' b hb
      exact ⟨sp, by rw [upd_ne _ _ e]; exact h1, (h2.mono hle).same (fun nv => by first | exact heap_alloc_old w _ _ (h2.lt nv) | exact heap_alloc_old w _ (h2.lt nv))⟩
  · intro k1 k2 b1 b2 sp1 sp2 hne (hb1 : upd S.H k _ k1 = .live b1) (hb2 : upd S.H k _ k2 = .live b2) ho nv h1 h2
    by_cases e1 : k1 = k
    · subst e1
      rw [upd_self] at hb1
      cases hb1; cases ho
    · by_cases e2 : k2 = k
      · subst e2
        rw [upd_self] at h2; cases h2
        rw [upd_ne _ _ e1] at hb1
        have := (old k1 b1 sp1 e1 hb1 h1).2 (not_void ho)
        exact Nat.ne_of_lt this
      · rw [upd_ne _ _ e1] at hb1 h1
        rw [upd_ne _ _ e2] at hb2 h2
        exact h.heap.apart k1 k2 b1 b2 sp1 sp2 hne hb1 hb2 ho nv h1 h2
  · have := h.frame.size; simp; omega
  · have hlt : b < w.heap.size := by have := h.frame.size; omega
    have e : (w.alloc (.cells c e fr)).heap[b]? = w.heap[b]? := by first | exact heap_alloc_old w _ _ hlt | exact heap_alloc_old w _ hlt
    rw [e]; exact h.frame.block b hb hW
  · by_cases e : k' = k
    · subst e; rw [upd_self] at hb; cases hb; cases ho
    · rw [upd_ne _ _ e] at hb hsp; exact h.owned k' b sp hb ho hsp
  · obtain ⟨sp, p1, p2⟩ := h.pin k' hk'
    exact ⟨sp, p1, by rw [upd_ne _ _ (fun e => by rw [e, hn] at p2; cases p2)]; exact p2⟩
theorem grown_le {w : World} {n m e : Nat} : n ≤ grownCap w n m e := grownCap_ge w n m e
def bytesAt (P : Program) (ops : Array Oper) (S : St) (i : Nat) : Option (ByteArray × TypeId) := match shapeAt ops S i with
  | some (.convert src dst x, true) => match ev S x, P.underlying src, P.underlying dst with
    | some (.string s), some .string, some (.slice e) => match P.underlying e with
      | some (.int .u8) => some (s, e)
      | _ => none
    | _, _, _ => none
  | _ => none
theorem does_bytes (k e : Nat) (l : List UInt8) (h : bytesAt P ops S i = some (ByteArray.mk l.toArray, e)) (hk : S.H k = .fresh) :
    Does C P ops i S ⟨[k], .slice (some ⟨k, 0, none⟩) l.length 0, [(k, .live ⟨l.map u8v, e, false, 1⟩)]⟩ := by
  unfold bytesAt at h
  split at h
  · rename_i src dst x hs
    split at h
    · rename_i s e' hx hsrc hdst
      split at h
      · rename_i he
        simp only [Option.some.injEq, Prod.mk.injEq] at h
        obtain ⟨rfl, rfl⟩ := h
        refine .of_run hs fun o ho S' ρ a w hT hH' hr => ?_
        have h1 := (ev_rel hr (by rw [hT x (by simp [Op.operands])]; exact hx)).eq_of_only (.string _)
        have hrun := run_bytes_of_string (P := P) w src dst e' (ByteArray.mk l.toArray) hsrc hdst he
        have hrel := Rel.newRo (S := S') (hr.drawn (w.drawn + 1)) (by rw [hH' k (by simp)]; exact hk) (cells := l.map u8v) (c := bytesRow (ByteArray.mk l.toArray) (grownCap w l.length 0 e')) (e := e') (fr := ((bytesRow (ByteArray.mk l.toArray) (grownCap w l.length 0 e')).size, (bytesRow (ByteArray.mk l.toArray) (grownCap w l.length 0 e')).size + 1)) (st := 1)
          (fun j u hu => by
            have hj := (List.getElem?_eq_some_iff.1 hu).1
            rw [List.length_map] at hj
            refine ⟨u, ?_, .of_only (only_flat (List.all_eq_true.1 (flat_u8 l) u (List.mem_of_getElem? hu)))⟩
            unfold bytesRow
            rw [Array.getElem?_append_left (by simpa using hj)]
            rw [List.getElem?_map] at hu
            simp only [Array.getElem?_map, List.getElem?_toArray]
            exact hu)
        rw [mk_size] at hrun
        refine ⟨_, _, _, .slice (some ⟨w.heap.size, 0, none⟩) l.length (grownCap w l.length 0 e'), ?_, .inl rfl, ?_, hrel⟩
        · simp only [execOp, ho, h1, hrun, Sem.run_bind, Sem.run_pure, Result.andThen_ok]; rfl
        · have hz : (bytesRow (ByteArray.mk l.toArray) (grownCap w l.length 0 e')).size = grownCap w l.length 0 e' := by
            have := grown_le (w := w) (n := l.length) (m := 0) (e := e')
            unfold bytesRow; simp [mk_size]; omega
          exact .slice k 0 l.length 0 _ _ (upd_self _ _ _) grown_le (by show 0 + grownCap w l.length 0 e' * 1 ≤ (bytesRow (ByteArray.mk l.toArray) (grownCap w l.length 0 e')).size; rw [hz]; omega)
      · cases h
    · cases h
  · cases h
end
end Go.Proofs.YtngmegnaohmapaaDoor.Am

namespace Go.Proofs.YtngmegnaohmapaaDoor.Am
open Go Go.RowKit
set_option linter.unusedVariables false
/-! ### 41. Contracts in worlds that hold a table -/
theorem acw_in {P : Program} {w : World} {f : FuncId} {fn : Func} {m : Nat} {args : List Value} {pre post : List (Nat × Blk)} {v : Value} (hf : P.funcs[f]? = some fn)
    (h : ∀ W pin, (∀ b, W b → ∃ ρ, OwnSet ρ pre b) → AW ⟨w, W, fn.ntmps, m, pin⟩ P (sb fn 1) (mkSt m (argsT 0 args) pre) (EndQ P fn v post)) (hb : fn.body = some (bodyOf fn) := by kernel_rfl) (hn : Nat.ble args.length fn.ntmps = true := by kernel_rfl)
    (hpo : (post.all fun x => x.2.own) = true := by kernel_rfl) : ACw P w f m args pre v post := acw_intro hf hb hn hpo h
section
variable {C : Ctx} {P : Program} {ops : Array Oper} {i : Nat} {S : St}
theorem does_cw {g : Nat} {vs : List Value} {v : Value} (ac : ∀ w, FrameOk C.w0 C.W w → ACw P w g 0 vs [] v []) (h : callAt P ops S i = some (g, vs) := by kernel_rfl) (hf : (vs.all flatB && flatB v) = true := by kernel_rfl) : Does C P ops i S ⟨[], v, []⟩ := by
  obtain ⟨x, ars, ats, a, b, us, hs, hx, hu, hb, he⟩ := callAt_spec h
  rw [Bool.and_eq_true] at hf
  have := does_callW (C := C) (P := P) (ops := ops) (i := i) (S := S) (m := 0) (r := 0) (pre := []) (post := []) (v := v) (fun j => j) hs hx hu hb ac
    (by rw [← he]; exact .flat (fun u hu => only_flat (List.all_eq_true.1 hf.1 u hu))) trivial trivial (fun j hj => by omega) (fun j hj => by simp at hj) (fun i j hi => by omega) (fun j h1 h2 => by omega) trivial
    (fun j hj => by simp at hj) (.flat v (only_flat hf.2))
  exact this
end
theorem law_callsW {P : Program} {f : FuncId} {args : List Value} {b : Bool} {w : World} (ac : ACw P w f 0 args [] (.bool b) []) (hf : args.all flatB = true) :
    Calls P f args.toArray w fun e w' => e = .returned (.bool b) ∧ Below w.heap.size w w' := by
  refine (ac (fun _ => none) args.toArray (by simp) (fun j u hu => ⟨u, by simpa using hu, .of_only (only_flat (List.all_eq_true.1 hf u (List.mem_of_getElem? hu)))⟩)
    ⟨fun _ _ hk => (List.not_mem_nil hk).elim, fun _ _ _ _ _ _ _ hk => (List.not_mem_nil hk).elim⟩ (fun k hk => by omega) (fun _ _ => rfl)).mono ?_
  rintro e w' ⟨v', ρ', rfl, hv, _, _, _, hfr⟩
  cases hv
  exact ⟨rfl, below_of_frame hfr (fun b _ => by rintro ⟨k, b, sp, hm, _⟩; exact (List.not_mem_nil hm).elim)⟩
abbrev TabAt (P : Program) (name : String) (k : IntKind) (zs : List Int) : World → Prop := fun w => Lib.TabIs P w name k zs
theorem tab_stays {P : Program} {name : String} {k : IntKind} {zs : List Int} {w w' : World} {W : Nat → Prop} (h : TabAt P name k zs w) (hf : FrameOk w W w') (hW : ∀ b, ¬ W b) : TabAt P name k zs w' := by
  unfold TabAt Lib.TabIs World.var? at *
  cases hg : P.globalNamed name with
  | none => rw [hg] at h; cases h
  | some g =>
    rw [hg] at h
    simp only [Option.bind_some] at h ⊢
    have hlt : g < w.heap.size := by
      cases hh : w.heap[g]? with
      | none => rw [hh] at h; cases h
      | some o => exact (Array.getElem?_eq_some_iff.1 hh).1
    rw [hf.block g hlt (hW g)]; exact h
theorem frame_below {w w' : World} (h : Below w.heap.size w w') : FrameOk w (fun _ => False) w' := ⟨h.os, h.tape, h.output, h.size, fun b hb _ => h.block b hb⟩
/-- a plain contract of the library's in worlds -/
theorem acw_flat {P : Program} {w : World} {f : FuncId} {args : List Value} {v : Value} (hf : args.all flatB = true) (hv : flatB v = true)
    (h : Calls P f args.toArray w fun e w' => e = .returned v ∧ Below w.heap.size w w') : ACw P w f 0 args [] v [] := by
  intro ρ args' hl ha hp hlow hhigh
  have e : args' = args.toArray := by
    apply Array.ext'
    apply List.ext_getElem?
    intro j
    cases hj : args[j]? with
    | none => rw [List.getElem?_eq_none_iff] at hj ⊢; simp; omega
    | some u =>
      obtain ⟨x, h1, h2⟩ := ha j u hj
      have := h2.eq_of_only (only_flat (List.all_eq_true.1 hf u (List.mem_of_getElem? hj)))
      rw [Array.getElem?_toList, h1, this]
  subst e
  refine h.mono ?_
  rintro e w' ⟨rfl, hb⟩
  refine ⟨v, ρ, rfl, .of_only (only_flat hv), fun _ _ => rfl, ⟨fun _ _ hk => (List.not_mem_nil hk).elim, fun _ _ _ _ _ _ _ hk => (List.not_mem_nil hk).elim⟩, fun k b sp _ hk => (List.not_mem_nil hk).elim, ?_⟩
  exact ⟨hb.os, hb.tape, hb.output, hb.size, fun b hlt _ => hb.block b hlt⟩
end Go.Proofs.YtngmegnaohmapaaDoor.Am

