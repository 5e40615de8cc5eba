import Derived.Test.YtadifmimefmcnaaM3
import Derived.Test.YtadifmimefmcnaaM10
import Derived.Shelf.GgSortFunc.InsertionK
import Derived.Shelf.SlSortCmp.WholeK
import Derived.Shelf.SlicesG.Cmp
import Derived.Shelf.SlGeneric
import Derived.Ground.SlsfProg
import Derived.Ground.SlgcProg
import Derived.Test.YtadifmimefmcnaaProg
import Derived.Shelf.Small.Bits
import Derived.Test.YtadifmimefmcnaaM5
import Derived.Test.YtadifmimefmcnaaM2
import Derived.Test.YtadifmimefmcnaaM4
import Derived.Test.YtadifmimefmcnaaM6
import Derived.Test.YtadifmimefmcnaaM0
set_option maxHeartbeats 4000000
set_option linter.unusedVariables false
set_option linter.unusedSimpArgs false
namespace Go.Proofs.Ytadifmimefmcnaa.Am
open Go Go.Sort Go.Proofs
def leB (a b : Int × Int) : Bool := decide (a.1 < b.1) || (decide (a.1 = b.1) && decide (a.2 ≤ b.2))
theorem leB_iff (a b : Int × Int) : leB a b = true ↔ ¬ Sp.lxP b a := by unfold leB Sp.lxP; simp only [Bool.or_eq_true, Bool.and_eq_true, decide_eq_true_eq]; omega
theorem leB_trans (a b c : Int × Int) (h : leB a b = true) (k : leB b c = true) : leB a c = true := by unfold leB at *; simp only [Bool.or_eq_true, Bool.and_eq_true, decide_eq_true_eq] at *; omega
theorem leB_total (a b : Int × Int) : (leB a b || leB b a) = true := by unfold leB; simp only [Bool.or_eq_true, Bool.and_eq_true, decide_eq_true_eq]; omega
theorem qB0 {a b : Int × Int} (h : leB a b = true) (k : leB b a = true) : a = b := by
  unfold leB at *; simp only [Bool.or_eq_true, Bool.and_eq_true, decide_eq_true_eq] at *
  exact Prod.ext (by omega) (by omega)
/-- the points in their order -/
def srtP (ps : List (Int × Int)) : List (Int × Int) := ps.mergeSort leB
theorem xU (ps) : (srtP ps).Perm ps := List.mergeSort_perm ps leB
theorem x9 (ps) : (srtP ps).length = ps.length := (xU ps).length_eq
theorem cC (ps) : (srtP ps).Pairwise (fun a b => leB a b = true) := List.pairwise_mergeSort leB_trans leB_total ps
theorem cD : ∀ {l l' : List (Int × Int)}, l.Perm l' → l.Pairwise (fun a b => leB a b = true) → l'.Pairwise (fun a b => leB a b = true) → l = l'
  | [], l', h, _, _ => (h.symm.eq_nil).symm
  | a :: r, l', h, p, p' => by
    cases l' with
    | nil => exact absurd h.eq_nil (by simp)
    | cons b r' =>
      have hp := List.pairwise_cons.1 p
      have hp' := List.pairwise_cons.1 p'
      have hab : a = b := by
        have ma : a ∈ b :: r' := h.mem_iff.1 (by simp)
        have mb : b ∈ a :: r := h.mem_iff.2 (by simp)
        rcases List.mem_cons.1 ma with k | k
        · exact k
        · rcases List.mem_cons.1 mb with q | q
          · exact q.symm
          · exact qB0 (hp.1 b q) (hp'.1 a k)
      subst hab
      rw [cD (List.Perm.cons_inv h) hp.2 hp'.2]
theorem qAA : ∀ (ps : List (Int × Int)) (t : Nat), t < ps.length * 2 → (ps.flatMap ptc)[t]? = some ((ptc (ps.toArray[t / 2]!))[t % 2]!)
  | [], t, h => by simp at h
  | p :: r, 0, h => by simp [ptc]
  | p :: r, 1, h => by simp [ptc]
  | p :: r, t + 2, h => by
    have ih := qAA r t (by simp at h; omega)
    rw [List.flatMap_cons]
    have e1 : (t + 2) / 2 = t / 2 + 1 := by omega
    have e2 : (t + 2) % 2 = t % 2 := by omega
    rw [e1, e2]
    have : (ptc p ++ r.flatMap ptc)[t + 2]? = (r.flatMap ptc)[t]? := by simp [ptc]
    rw [this, ih]
    simp
theorem lA (ps : List (Int × Int)) (t : Nat) (h : t < ps.length * 2) : (ps.flatMap ptc)[t]? = some ((flatK ptc 2 ps.toArray)[t]!) := by
  rw [get_flatK ptc 2 ps.toArray t (by simpa using h)]; exact qAA ps t h
theorem cP (ps : List (Int × Int)) : (ps.flatMap ptc).length = ps.length * 2 := by rw [pairs_length]; omega
theorem flat_at {ps : List (Int × Int)} {i : Nat} {u : Value} (h : (ps.flatMap ptc)[i]? = some u) : i < ps.length * 2 ∧ u = (flatK ptc 2 ps.toArray)[i]! ∧ flatB u = true := by
  obtain ⟨hi, e⟩ := List.getElem?_eq_some_iff.1 h
  rw [cP] at hi
  refine ⟨hi, ?_, ?_⟩
  · rw [lA ps i hi] at h; exact (Option.some.inj h).symm
  · have : u ∈ ps.flatMap ptc := List.mem_of_getElem? h
    obtain ⟨p, _, hp⟩ := List.mem_flatMap.1 this
    simp only [ptc, List.mem_cons, List.not_mem_nil, or_false] at hp
    rcases hp with rfl | rfl <;> rfl
/-- what the sort's contract says of points -/
def SortsP (P : Program) (fid g : Nat) (lt : Int × Int → Int × Int → Bool) : Prop := ∀ (blk off cap : Nat) (d : Array (Int × Int)) (w : World), HoldsK ptc 2 w blk off d → blk < w.heap.size → d.size < 4611686018427387904 →
  Calls P fid #[.slice (some ⟨blk, off, none⟩) d.size cap, .func (.func g) #[] #[]] w fun e w' => e = .returned (.tuple #[]) ∧ ∃ d' n os, PermIn 0 d.size d d' ∧ SortedIn lt 0 d.size d' ∧ w' = sortWorldK ptc 2 w blk off n d' os
theorem sJ {lt : Int × Int → Int × Int → Bool} (hlt : ∀ a b, lt a b = !leB b a) {ps : List (Int × Int)} {d' : Array (Int × Int)} (hp : PermIn 0 ps.toArray.size ps.toArray d') (hs : SortedIn lt 0 ps.toArray.size d') : d'.toList = srtP ps := by
  obtain ⟨h1, _, h2⟩ := hp
  have e1 : d'.extract 0 ps.toArray.size = d' := by rw [← h1]; simp
  have e2 : (ps.toArray).extract 0 ps.toArray.size = ps.toArray := by simp
  rw [e1, e2] at h2
  refine cD (h2.trans (xU ps).symm) ?_ (cC ps)
  rw [List.pairwise_iff_getElem]
  intro i j hi hj hij
  have hi' : i < d'.size := by simpa using hi
  have hj' : j < d'.size := by simpa using hj
  have := hs i j (Nat.zero_le _) hij (by rw [← h1]; exact hj')
  rw [hlt] at this
  rw [getElem!_pos d' j hj', getElem!_pos d' i hi'] at this
  simpa using this
theorem ac_sort {P : Program} {fid g : Nat} {elem : TypeId} {lt : Int × Int → Int × Int → Bool} (hlt : ∀ a b, lt a b = !leB b a) (hc : SortsP P fid g lt) (ps : List (Int × Int)) (h1 : 0 < ps.length) (hz : ps.length < 4611686018427387904) :
    AC P fid 1 [.slice (some ⟨0, 0, none⟩) ps.length 0, .func (.func g) #[] #[]] [(0, ⟨ps.flatMap ptc, elem, true, 2⟩)] (.tuple #[]) [(0, ⟨(srtP ps).flatMap ptc, elem, true, 2⟩)] := by
  intro ρ w args' hl ha hp hlow hhigh
  obtain ⟨a0, g0, r0⟩ := ha 0 _ rfl
  obtain ⟨a1, g1, r1⟩ := ha 1 _ rfl
  obtain ⟨x, xs, rfl⟩ : ∃ x y, args' = #[x, y] := by
    have : args'.size = 2 := by rw [← hl]; rfl
    exact ⟨args'[0], args'[1], by apply Array.ext (by simpa using this); intro i h1 h2; match i, h2 with | 0, _ => rfl | 1, _ => rfl⟩
  simp only [List.getElem?_toArray, List.getElem?_cons_zero, Option.some.injEq, List.getElem?_cons_succ] at g0 g1
  subst g0; subst g1
  have r1' : xs = .func (.func g) #[] #[] := by
    cases r1 with
    | func _ _ ys _ ds e1 v1 e2 v2 =>
      have : ys = #[] := by apply Array.ext (by simpa using e1.symm) ; intro i h1 h2; simp at h2
      have : ds = #[] := by apply Array.ext (by simpa using e2.symm) ; intro i h1 h2; simp at h2
      subst_vars; rfl
  subst r1'
  have N0 : ∃ N, ps.length = N := ⟨_, rfl⟩
  obtain ⟨N, hN⟩ := N0
  rw [hN] at r0
  obtain ⟨sp, e0, bok⟩ := hp.live 0 ⟨ps.flatMap ptc, elem, true, 2⟩ (List.mem_singleton.2 rfl)
  rw [jC.own (b := ⟨ps.flatMap ptc, elem, true, 2⟩) rfl] at bok
  obtain ⟨hst, c, hc1, hc2, hc3, hc4⟩ := bok
  have key : ∃ off cap, x = .slice (some ⟨sp.block, off, none⟩) ps.length cap ∧ off = sp.off := by
    cases r0 with
    | slice _ _ _ _ cap sp' h hc hs =>
      rw [e0, Option.some.injEq] at h
      subst h
      exact ⟨sp.off + 0, cap, by rw [hN], rfl⟩
    | slice0 => omega
  obtain ⟨off, cap, rfl, rfl⟩ := key
  have hblk : sp.block < w.heap.size := (Array.getElem?_eq_some_iff.1 hc1).1
  simp only [cP] at hc3
  have hF : (flatK ptc 2 ps.toArray).size = ps.length * 2 := by simp
  have hH : HoldsK ptc 2 w sp.block sp.off ps.toArray := by
    intro j hj
    rw [hF] at hj
    have hu := lA ps j hj
    obtain ⟨v, a, r⟩ := hc4 j _ hu
    have hv := r.eq_of_only (qT (flat_at hu).2.2)
    subst hv
    refine ⟨?_, ?_⟩
    · unfold World.cell?; rw [hc1]; exact a
    · unfold World.frozen?; rw [hc1]; simp
  have hcall := hc sp.block sp.off cap ps.toArray w hH hblk (by simpa using hz)
  refine Calls.mono hcall ?_
  rintro e w' ⟨he, d', n, os, hperm, hsort, rfl⟩
  have hd' := sJ hlt hperm hsort
  have hsz : d'.size = ps.length := by rw [← Array.length_toList, hd', x9]
  have harr : (srtP ps).toArray = d' := by rw [← hd']
  have heap' : ∀ b, b < w.heap.size → (sortWorldK ptc 2 w sp.block sp.off n d' os).heap[b]? = if sp.block = b then (w.heap[b]?).map (onCells (putCells id sp.off (flatK ptc 2 d'))) else w.heap[b]? := by
    intro b hb
    show ((w.heap.modify sp.block (onCells (putCells id sp.off (flatK ptc 2 d')))) ++ os)[b]? = _
    rw [Array.getElem?_append_left (by simpa using hb), Array.getElem?_modify]
  refine ⟨.tuple #[], ρ, he, rel_flat rfl, fun _ _ => rfl, ⟨fun k b hk => ?_, fun k k' b b' sp1 sp2 hne h1 h2 => ?_⟩, fun k b sp1 hk hm => ?_, ⟨rfl, rfl, rfl, ?_, fun b hb hno => ?_⟩⟩
  · simp only [List.mem_singleton, Prod.mk.injEq] at hk
    obtain ⟨rfl, rfl⟩ := hk
    refine ⟨sp, e0, ?_⟩
    rw [jC.own (b := ⟨(srtP ps).flatMap ptc, elem, true, 2⟩) rfl]
    refine ⟨hst, putCells id sp.off (flatK ptc 2 d') c, ?_, ?_, ?_, fun i u hu => ?_⟩
    · rw [heap' _ hblk, if_pos rfl, hc1]; rfl
    · rw [hc2]; unfold putCells; simp
    · simp only [cP, x9]; exact hc3
    · obtain ⟨g1, g2, g3⟩ := flat_at hu
      rw [x9] at g1
      refine ⟨u, ?_, rel_flat g3⟩
      unfold putCells
      rw [Array.getElem?_mapIdx]
      have : sp.off + i < c.size := by omega
      rw [Array.getElem?_eq_getElem this]
      simp only [Option.map_some, Option.some.injEq]
      rw [if_pos (by rw [size_flatK, hsz]; omega), g2, harr, Nat.add_sub_cancel_left]; rfl
  · simp only [List.mem_singleton, Prod.mk.injEq] at h1 h2
    omega
  · simp only [List.mem_singleton, Prod.mk.injEq] at hm
    omega
  · show w.heap.size ≤ ((w.heap.modify sp.block _) ++ os).size
    simp
  · rw [heap' b hb, if_neg (fun q => hno ⟨0, ⟨ps.flatMap ptc, elem, true, 2⟩, sp, List.mem_singleton.2 rfl, rfl, e0, q⟩)]
theorem lR {C : Ctx} {P : Program} {Q : Exit → St → Prop} {c : Code} {S : St} (k : Nat) (b : Blk) (l : List Value) (m : Nat) (h : AW C P c ⟨S.T, wr [(k, .live ⟨l, b.elem, true, b.step⟩)] S.H⟩ Q)
    (hl : l = b.cells.take m) (ho : b.own = true := by kernel_rfl) (hk : S.H k = .live b := by kernel_rfl) : AW C P c S Q := by
  intro ρ a w hr
  obtain ⟨sp, e0, bok⟩ := hr.heap.live k b hk
  have hb := bok
  rw [jC.own ho] at hb
  obtain ⟨h1, cc, hc1, hc2, hc3, hc4⟩ := hb
  refine h ρ a w (Rel.write hr hk ho e0 (cells := l) ?_ hc1 hc2 (fun j u hu => ?_) rfl rfl rfl rfl (fun _ _ => rfl))
  · rw [hl, List.length_take]; omega
  · rw [hl, List.getElem?_take] at hu
    split at hu
    · exact hc4 j u hu
    · cases hu
theorem l9 {C : Ctx} {P : Program} {Q : Exit → St → Prop} {c : Code} {S : St} (k : Nat) (b : Blk) (l : List Value) (m : Nat) (h : AL C P c ⟨S.T, wr [(k, .live ⟨l, b.elem, true, b.step⟩)] S.H⟩ Q)
    (hl : l = b.cells.take m) (ho : b.own = true := by kernel_rfl) (hk : S.H k = .live b := by kernel_rfl) : AL C P c S Q := by
  intro ρ a w hr
  obtain ⟨sp, e0, bok⟩ := hr.heap.live k b hk
  have hb := bok
  rw [jC.own ho] at hb
  obtain ⟨h1, cc, hc1, hc2, hc3, hc4⟩ := hb
  refine h ρ a w (Rel.write hr hk ho e0 (cells := l) ?_ hc1 hc2 (fun j u hu => ?_) rfl rfl rfl rfl (fun _ _ => rfl))
  · rw [hl, List.length_take]; omega
  · rw [hl, List.getElem?_take] at hu
    split at hu
    · exact hc4 j u hu
    · cases hu
theorem qDB {ps : List (Int × Int)} {off k : Nat} (ho : off = 2 * k) : (ps.take k).flatMap ptc = (ps.flatMap ptc).take off := by
  have := uM (ps := ps) (off := 0) (j := 0) (m := off) (k := k) (by omega) ho
  rw [List.drop_zero, List.drop_zero] at this; exact this.symm
section
variable {C : Ctx} {P : Program} {ops : Array Oper} {S : St} {i : Nat}
def clearAt (P : Program) (ops : Array Oper) (S : St) (i : Nat) : Option (Nat × Nat × Nat × TypeId × Nat × Value) := match qZ ops S i with
  | some (.call c, true) => match c.callee with
    | .builtin b => match b with
      | .clear => match c.args.toList, c.argTypes.toList with
        | [x], [t] => match ev S x with
          | some (.slice (some ⟨k, off, none⟩) n _) => match vF P t with
            | some e => match P.info? e with
              | some inf => match inf.zero with
                | some z => some (k, off, n, e, inf.size, z)
                | none => none
              | none => none
            | none => none
          | _ => none
        | _, _ => none
      | _ => none
    | _ => none
  | _ => none
/-- clear of a row from a place on: its beginning is told on -/
theorem qEK {k off n e z : Nat} {b : Blk} {zv : Value} (l : List Value) (hs : clearAt P ops S i = some (k, off, n, e, z, zv)) (hH : S.H k = .live b) (ho : b.own = true) (hf : zv.cells.toList.all (fun u => flatB u && fM u) = true) (hz : zv.cells.size = z)
    (hn : 1 ≤ n) (hl : l = b.cells.take off) (hle : off + n * z ≤ b.cells.length) :
    Does C P ops i S ⟨[k], .tuple #[], [(k, .live ⟨l, b.elem, true, b.step⟩)]⟩ := by
  unfold clearAt at hs
  split at hs
  · rename_i c hsh
    obtain ⟨cal, ars, ats⟩ := c
    simp only at hs
    split at hs
    · split at hs
      · split at hs
        · rename_i x t hars hats
          split at hs
          · rename_i k' off' n' c' hx
            split at hs
            · rename_i e' he
              split at hs
              · rename_i inf hi
                split at hs
                · rename_i z' hzz
                  simp only [Option.some.injEq, Prod.mk.injEq] at hs
                  obtain ⟨rfl, rfl, rfl, rfl, rfl, rfl⟩ := hs
                  have ea : ars = #[x] := by rw [← Array.toArray_toList (xs := ars), hars]
                  subst ea
                  have et : ats[0]? = some t := by rw [← Array.getElem?_toList, hats]; rfl
                  refine .of_run hsh fun o hop S' ρ a w hT hH' hr => ?_
                  have hu : P.underlying t = some (.slice e') := gN he
                  have hrx := jM hr (by rw [hT x (by simp [Op.operands, Call.operands])]; exact hx)
                  generalize hax : a.eval x = ax at hrx
                  cases hrx with
                  | slice0 => omega
                  | slice _ _ _ _ cap sp hk hc1 hs1 =>
                    have hHk : S'.H k' = .live b := by rw [hH' k' (by simp)]; exact hH
                    obtain ⟨q1, e1, e2⟩ := hr.heap.live k' b hHk
                    rw [hk] at e1; cases e1
                    have hb2 := e2
                    rw [jC.own ho] at hb2
                    obtain ⟨_, cc, hg, hcs, hcl, hcc⟩ := hb2
                    have hzs : (Builtin.zeroCells z'.cells n').toList.length = n' * inf.size := by unfold Builtin.zeroCells; simp [hz]
                    have hzf : ∀ u ∈ (Builtin.zeroCells z'.cells n').toList, flatB u = true ∧ fM u = true := by
                      intro u hu
                      unfold Builtin.zeroCells at hu
                      rw [Array.toList_map, List.mem_map] at hu
                      obtain ⟨j, hj, rfl⟩ := hu
                      have hj' : j < n' * z'.cells.size := by simpa using hj
                      have hlt : j % z'.cells.size < z'.cells.size := Nat.mod_lt _ (by rcases Nat.eq_zero_or_pos z'.cells.size with q | q; rw [q] at hj'; simp at hj'; exact q)
                      rw [getElem!_pos z'.cells (j % z'.cells.size) hlt]
                      have := List.all_eq_true.1 hf (z'.cells[j % z'.cells.size]) (by simp)
                      rwa [Bool.and_eq_true] at this
                    have hget := mQ (Builtin.zeroCells z'.cells n').toList b.cells off' (by rw [hzs]; exact hle)
                    obtain ⟨w', c', r1, r2, r3, r4, r5, r6, r7, r8, r9⟩ := j7 (P := P) (ρ := ρ) (blk := sp.block) (o := sp.off) (e := b.elem) (fin := setL b.cells off' (Builtin.zeroCells z'.cells n').toList) (Builtin.zeroCells z'.cells n').toList (Builtin.zeroCells z'.cells n').toList w cc off' 0 hg
                      (by rw [hzs]; omega) rfl (fun u hu => (hzf u hu).2) (fun j u hu => ⟨u, hu, .of_only (qT (hzf u (List.mem_of_getElem? hu)).1)⟩)
                      (fun j u hu => by
                        obtain ⟨hj, _⟩ := List.getElem?_eq_some_iff.1 hu
                        rw [hget, if_pos (by omega), show off' + 0 + j - off' = j by omega]; exact hu)
                      (fun j u hj hu => by
                        rw [hget, if_neg (by omega)] at hu
                        exact hcc j u hu)
                    refine ⟨_, w', ρ, .tuple #[], ?_, .inl rfl, .of_only (qT rfl), Rel.write hr hHk ho hk (cells := l) (by rw [hl, List.length_take]; omega) r2 (by rw [r3]; exact hcs) (fun j u hu => ?_) r5 r6 r7 r8 r9⟩
                    · have ev1 : (#[x] : Array Operand).map a.eval = #[.slice (some ⟨sp.block, sp.off + off', none⟩) n' cap] := by simp [hax]
                      obtain ⟨m, rfl⟩ : ∃ m, n' = m + 1 := ⟨n' - 1, by omega⟩
                      have hzr := mS (P := P) (w := w) hi hzz
                      simp only [execOp, hop, resolve, ev1, Sem.run_bind, Sem.run_pure, Result.andThen_ok, invoke, builtin, Builtin.clear_, et, List.getElem?_toArray, List.getElem?_cons_zero, run_underlying hu, hzr, r1]
                    · rw [hl, List.getElem?_take] at hu
                      split at hu
                      · refine r4 j u ?_
                        rw [hget, if_neg (by omega)]; exact hu
                      · cases hu
                · cases hs
              · cases hs
            · cases hs
          · cases hs
        · cases hs
      · cases hs
    · cases hs
  · cases hs
end
open Go Go.Sort Go.Proofs
section
variable {C : Ctx} {P : Program} {ops : Array Oper} {S : St} {i : Nat}
end
end Go.Proofs.Ytadifmimefmcnaa.Am
namespace Go.Proofs.Ytadifmimefmcnaa.Sh
open Go Go.Shelf Go.RowKit Go.Lib Go.Sort Go.Proofs
def qDC : Go.Shelf.Ren := ⟨fun | 6 => 81 | 15 => 114 | 14 => 118 | 28 => 144 | 29 => 145 | 20 => 146 | 21 => 147 | 22 => 148 | 23 => 149 | 24 => 150 | 25 => 151 | 26 => 152 | 27 => 153 | 46 => 170 | 47 => 166 | 48 => 167 | 49 => 171 | 50 => 172 | 57 => 177 | n => n, fun | 22 => 24 | 24 => 29 | 25 => 52 | 3 => 3 | 39 => 102 | 0 => 0 | 53 => 132 | 55 => 88 | 4 => 4 | 46 => 138 | 45 => 137 | 50 => 143 | 5 => 5 | 9 => 9 | 66 => 160 | 70 => 164 | 76 => 171 | 77 => 172 | n => n, fun | n => n⟩
theorem sortPt : Go.Proofs.SlLaysF0.n6 Try.prog qDC := {
  mixed := by kernel_rfl
  f6 := ⟨Try.f81.name, by decide, Try.func81.trans (congrArg some (by kernel_rfl))⟩
  f14 := ⟨Try.f118.name, by decide, Try.func118.trans (congrArg some (by kernel_rfl))⟩
  f15 := Try.func114.trans (congrArg some (by kernel_rfl))
  f20 := ⟨Try.f146.name, by decide, Try.func146.trans (congrArg some (by kernel_rfl))⟩
  f21 := ⟨Try.f147.name, by decide, Try.func147.trans (congrArg some (by kernel_rfl))⟩
  f22 := ⟨Try.f148.name, by decide, Try.func148.trans (congrArg some (by kernel_rfl))⟩
  f23 := ⟨Try.f149.name, by decide, Try.func149.trans (congrArg some (by kernel_rfl))⟩
  f24 := ⟨Try.f150.name, by decide, Try.func150.trans (congrArg some (by kernel_rfl))⟩
  f25 := ⟨Try.f151.name, by decide, Try.func151.trans (congrArg some (by kernel_rfl))⟩
  f26 := ⟨Try.f152.name, by decide, Try.func152.trans (congrArg some (by kernel_rfl))⟩
  f27 := ⟨Try.f153.name, by decide, Try.func153.trans (congrArg some (by kernel_rfl))⟩
  f28 := Try.func144.trans (congrArg some (by kernel_rfl))
  f29 := Try.func145.trans (congrArg some (by kernel_rfl))
  f46 := ⟨Try.f170.name, by decide, Try.func170.trans (congrArg some (by kernel_rfl))⟩
  f47 := Try.func166.trans (congrArg some (by kernel_rfl))
  f48 := Try.func167.trans (congrArg some (by kernel_rfl))
  f49 := ⟨Try.f171.name, by decide, Try.func171.trans (congrArg some (by kernel_rfl))⟩
  f50 := ⟨Try.f172.name, by decide, Try.func172.trans (congrArg some (by kernel_rfl))⟩
  f57 := ⟨Try.f177.name, by decide, Try.func177.trans (congrArg some (by kernel_rfl))⟩
  t0 := Try.underlying0
  a0 := Try.isAgg0
  z0 := Try.sizeOf0
  v0 := Try.zeroValue0
  t3 := Try.underlying3
  a3 := Try.isAgg3
  z3 := Try.sizeOf3
  v3 := Try.zeroValue3
  t4 := Try.underlying4
  a4 := Try.isAgg4
  z4 := Try.sizeOf4
  v4 := Try.zeroValue4
  t5 := Try.underlying5
  a5 := Try.isAgg5
  z5 := Try.sizeOf5
  v5 := Try.zeroValue5
  t9 := Try.underlying9
  a9 := Try.isAgg9
  z9 := Try.sizeOf9
  v9 := Try.zeroValue9
  t22 := Try.underlying24
  a22 := Try.isAgg24
  z22 := Try.sizeOf24
  v22 := Try.zeroValue24
  t25 := Try.underlying52
  a25 := Try.isAgg52
  z25 := Try.sizeOf52
  v25 := Try.zeroValue52
  t39 := Try.underlying102
  a39 := Try.isAgg102
  z39 := Try.sizeOf102
  v39 := Try.zeroValue102
  t45 := Try.underlying137
  a45 := Try.isAgg137
  z45 := Try.sizeOf137
  v45 := Try.zeroValue137
  t46 := Try.underlying138
  a46 := Try.isAgg138
  z46 := Try.sizeOf138
  v46 := Try.zeroValue138
  t50 := Try.underlying143
  a50 := Try.isAgg143
  z50 := Try.sizeOf143
  v50 := Try.zeroValue143
  t53 := Try.underlying132
  a53 := Try.isAgg132
  z53 := Try.sizeOf132
  v53 := Try.zeroValue132
  t55 := Try.underlying88
  a55 := Try.isAgg88
  z55 := Try.sizeOf88
  v55 := Try.zeroValue88
  t66 := Try.underlying160
  a66 := Try.isAgg160
  z66 := Try.sizeOf160
  v66 := Try.zeroValue160
  t70 := Try.underlying164
  a70 := Try.isAgg164
  z70 := Try.sizeOf164
  v70 := Try.zeroValue164
  t76 := Try.underlying171
  a76 := Try.isAgg171
  z76 := Try.sizeOf171
  v76 := Try.zeroValue171
  t77 := Try.underlying172
  a77 := Try.isAgg172
  z77 := Try.sizeOf172
  v77 := Try.zeroValue172 }
def qF6 : Go.Shelf.Ren := ⟨fun | 5 => 79 | 7 => 116 | n => n, fun | 22 => 3 | 3 => 3 | 4 => 4 | n => n, fun | n => n⟩
theorem cmpInt : Go.Proofs.SlLaysC2.n5 Try.prog qF6 := {
  mixed := by kernel_rfl
  f5 := ⟨Try.f79.name, by decide, Try.func79.trans (congrArg some (by kernel_rfl))⟩
  f7 := ⟨Try.f116.name, by decide, Try.func116.trans (congrArg some (by kernel_rfl))⟩
  t3 := Try.underlying3
  a3 := Try.isAgg3
  z3 := Try.sizeOf3
  v3 := Try.zeroValue3
  t4 := Try.underlying4
  a4 := Try.isAgg4
  z4 := Try.sizeOf4
  v4 := Try.zeroValue4
  t22 := Try.underlying3
  a22 := Try.isAgg3
  z22 := Try.sizeOf3
  v22 := Try.zeroValue3 }
def cfP (x y : Int × Int) : Int := if Lib.compareInt x.1 y.1 = 0 then Lib.compareInt x.2 y.2 else Lib.compareInt x.1 y.1
theorem ltP (x y : Int × Int) : ltOf cfP x y = !Am.leB y x := by
  unfold ltOf cfP Lib.compareInt Am.leB
  rw [Bool.eq_iff_iff]
  simp only [decide_eq_true_eq, Bool.not_eq_true', Bool.or_eq_false_iff, Bool.and_eq_false_imp, decide_eq_false_iff_not]
  (repeat' split) <;> omega
theorem swoP : SWO (ltOf cfP) where
  irrefl x := by rw [ltP]; simp [Am.leB]
  trans x y z h1 h2 := by rw [ltP] at *; unfold Am.leB at *; simp only [Bool.not_eq_true', Bool.or_eq_false_iff, Bool.and_eq_false_imp, decide_eq_false_iff_not, decide_eq_true_eq] at *; omega
  ntrans x y z h1 h2 := by rw [ltP] at *; unfold Am.leB at *; simp only [Bool.not_eq_false', Bool.or_eq_true, Bool.and_eq_true, decide_eq_true_eq] at *; omega
set_option maxHeartbeats 1000000 in
theorem closure (x y : Int × Int) (W : World) : Calls Try.prog 82 #[.agg #[.int .i64 x.1, .int .i64 x.2], .agg #[.int .i64 y.1, .int .i64 y.2]] W fun e w' => e = .returned (.int .i64 (cfP x y)) ∧ ∃ q os', w' = grow (W.drewN q) os' := by
  have hcon := fun a b W' => AnyG.cmp_Compare_int cmpInt a b W'
  change ∀ a b W', Calls Try.prog 79 _ _ _ at hcon
  unfold cfP
  generalize Lib.compareInt = f at hcon ⊢
  by_cases hz : f x.1 y.1 = 0
  · rw [if_pos hz]
    go_enter Try.func82, Try.ntmps82
    go_wp2_with (go_at_call 79; refine (hcon _ _ _).mono ?_; rintro e w' ⟨he, rfl⟩; subst he; try rw [hz])
    go_ret
    exact ⟨rfl, 0, _, by rw [alloc_eq_grow, alloc_eq_grow, grow_grow]; rfl⟩
  · rw [if_neg hz]
    go_enter Try.func82, Try.ntmps82
    go_wp2_with (go_at_call 79; refine (hcon _ _ _).mono ?_; rintro e w' ⟨he, rfl⟩; subst he)
    go_ret
    exact ⟨rfl, 0, _, by rw [alloc_eq_grow, alloc_eq_grow, grow_grow]; rfl⟩
theorem cmpLays (blk off size : Nat) (w : World) : CmpLays Try.prog 82 #[] Am.ptc 2 cfP blk off size w := fun _ _ _ _ x y => closure x y _
set_option maxRecDepth 100000 in
theorem sortsP : Am.SortsP Try.prog 81 82 (ltOf cfP) := by
  intro blk off cap d w hH hblk hsz
  have eg : ∀ args w, (callFunc 82 args).run Try.prog w = .ok (.enter 82 args) w := enters_of Try.func82 (by kernel_rfl) rfl
  exact AnyQ.slices_SortFunc sortPt 2 Try.isAgg29 Try.sizeOf29 Am.ptc (fun _ => rfl) (fun x v hv => by simp [Am.ptc] at hv; rcases hv with rfl | rfl <;> rfl) cfP swoP 82 #[] blk off cap d w eg (cmpLays blk off d.size w) hH hblk hsz
end Go.Proofs.Ytadifmimefmcnaa.Sh
namespace Go.Proofs.Ytadifmimefmcnaa.Am.Sp
open Go
def nop : List (Int × Int) := []
/-- without what is the same as the one ahead -/
def ddp : List (Int × Int) → List (Int × Int)
  | a :: b :: r => if a = b then ddp (b :: r) else a :: ddp (b :: r)
  | [a] => [a]
  | [] => []
theorem bN : ∀ (a : Int × Int) (r : List (Int × Int)), ∃ t, ddp (a :: r) = a :: t
  | a, [] => ⟨[], rfl⟩
  | a, b :: r => by
    rw [ddp]
    split
    · rename_i h; subst h; exact bN a r
    · exact ⟨_, rfl⟩
theorem uH : ∀ (l : List (Int × Int)) (x : Int × Int), l.getLast? = some x → ddp (l ++ [x]) = ddp l
  | [], x, h => by simp at h
  | [a], x, h => by
    have : a = x := by simpa using h
    subst this; simp [ddp]
  | a :: b :: r, x, h => by
    have ih := uH (b :: r) x (by rw [List.getLast?_cons_cons] at h; exact h)
    rw [List.cons_append] at ih
    rw [List.cons_append, List.cons_append, ddp, ddp, ih]
theorem uG : ∀ (l : List (Int × Int)) (x : Int × Int), l.getLast? ≠ some x → ddp (l ++ [x]) = ddp l ++ [x]
  | [], x, h => rfl
  | [a], x, h => by
    have : a ≠ x := by simpa using h
    simp [ddp, this]
  | a :: b :: r, x, h => by
    have ih := uG (b :: r) x (by rw [List.getLast?_cons_cons] at h; exact h)
    rw [List.cons_append] at ih
    rw [List.cons_append, List.cons_append, ddp, ddp, ih]
    split <;> simp
theorem getLast_take {l : List (Int × Int)} {j : Nat} (h1 : 1 ≤ j) (h : j ≤ l.length) : (l.take j).getLast? = some (l.getD (j - 1) (0, 0)) := by
  rw [List.getLast?_eq_getElem?, List.length_take, Nat.min_eq_left h, List.getElem?_take, if_pos (by omega), List.getElem?_eq_getElem (by omega), jV (by omega)]
theorem gY {l : List (Int × Int)} {j : Nat} (h : j < l.length) : l.take (j + 1) = l.take j ++ [l.getD j (0, 0)] := by
  rw [List.take_succ_eq_append_getElem h, jV h]
theorem uK {l : List (Int × Int)} {j : Nat} (h1 : 1 ≤ j) (h : j < l.length) (e : l.getD j (0, 0) = l.getD (j - 1) (0, 0)) : ddp (l.take (j + 1)) = ddp (l.take j) := by
  rw [gY h]; exact uH _ _ (by rw [getLast_take h1 (by omega), e])
theorem uJ {l : List (Int × Int)} {j : Nat} (h1 : 1 ≤ j) (h : j < l.length) (e : l.getD j (0, 0) ≠ l.getD (j - 1) (0, 0)) : ddp (l.take (j + 1)) = ddp (l.take j) ++ [l.getD j (0, 0)] := by
  rw [gY h]; exact uG _ _ (by rw [getLast_take h1 (by omega)]; simp only [ne_eq, Option.some.injEq]; exact fun q => e q.symm)
/-- the two points are the same, as the code asks it -/
theorem nW (a b : Int × Int) : ((a.1 == b.1) && ((a.2 == b.2) && true)) = true ↔ a = b := by
  simp [Prod.ext_iff]
theorem eqb_ne {a b : Int × Int} (h : ((a.1 == b.1) && ((a.2 == b.2) && true)) = false) : a ≠ b := fun q => by rw [(nW a b).2 q] at h; cases h
/-- Compact: the first loop has found nothing yet -/
theorem cmp_go {l : List (Int × Int)} {k : Nat} (h1 : 1 ≤ k) (h : k < l.length) (hi : ddp (l.take k) = l.take k) (e : l.getD k (0, 0) ≠ l.getD (k - 1) (0, 0)) : ddp (l.take (k + 1)) = l.take (k + 1) := by
  rw [uJ h1 h e, hi, ← gY h]
theorem cmp_one (l : List (Int × Int)) : ddp (l.take 1) = l.take 1 := by cases l <;> rfl
theorem cmp_short {l : List (Int × Int)} (h : l.length < 2) : ddp l = l := by
  match l, h with
  | [], _ => rfl
  | [a], _ => rfl
/-- Compact: the second loop: what is kept lies in front, what is to come lies where it lay -/
structure Cpt (l cur : List (Int × Int)) (k j : Nat) : Prop where
  len : cur.length = l.length
  front : cur.take k = ddp (l.take j)
  rest : ∀ i, j ≤ i + 1 → cur.getD i (0, 0) = l.getD i (0, 0)
  lt : k < j
  le : 1 ≤ k
theorem cpt_start {l : List (Int × Int)} {k : Nat} (h1 : 1 ≤ k) (h : k < l.length) (hi : ddp (l.take k) = l.take k) (e : l.getD k (0, 0) = l.getD (k - 1) (0, 0)) : Cpt l l k (k + 1) :=
  ⟨rfl, by rw [uK h1 h e, hi], fun _ _ => rfl, by omega, h1⟩
theorem cpt_same {l cur : List (Int × Int)} {k j : Nat} (h : Cpt l cur k j) (hj : j < l.length) (e : cur.getD j (0, 0) = cur.getD (j - 1) (0, 0)) : Cpt l cur k (j + 1) := by
  have hk := h.lt
  have h1 := h.le
  refine ⟨h.len, ?_, fun i hi => h.rest i (by omega), by omega, h1⟩
  rw [uK (by omega) hj (by rw [← h.rest j (by omega), ← h.rest (j - 1) (by omega)]; exact e)]; exact h.front
theorem cpt_new {l cur : List (Int × Int)} {k j : Nat} {x y : Int} (h : Cpt l cur k j) (hj : j < l.length) (e : cur.getD j (0, 0) ≠ cur.getD (j - 1) (0, 0)) (hx : x = (cur.getD j (0, 0)).1) (hy : y = (cur.getD j (0, 0)).2) : Cpt l (cur.set k (x, y)) (k + 1) (j + 1) := by
  subst hx; subst hy
  have hk := h.lt
  have h1 := h.le
  have hl := h.len
  refine ⟨by rw [List.length_set]; exact hl, ?_, fun i hi => ?_, by omega, by omega⟩
  · rw [uJ (by omega) hj (by rw [← h.rest j (by omega), ← h.rest (j - 1) (by omega)]; exact e), ← h.front, gY (by rw [List.length_set]; omega)]
    congr 1
    · rw [List.take_set_of_le (Nat.le_refl _)]
    · rw [jV (by rw [List.length_set]; omega), List.getElem_set_self, h.rest j (by omega)]
  · rw [← h.rest i (by omega), List.getD_eq_getElem?_getD, List.getElem?_set_ne (by omega)]; rfl
theorem cpt_end {l cur : List (Int × Int)} {k j : Nat} (h : Cpt l cur k j) (hj : l.length ≤ j) (hjl : j ≤ l.length) : ddp l = cur.take k ∧ (ddp l).length = k := by
  have hk := h.lt
  have e : ddp l = cur.take k := by rw [h.front, List.take_of_length_le hj]
  exact ⟨e, by rw [e, List.length_take, h.len]; omega⟩
theorem lH {l cur : List (Int × Int)} {k k0 j : Nat} (h1 : 1 ≤ j) (h : Cpt l cur k (k0 + j)) (hj : k0 + j < l.length) (e : cur.getD (k0 + j) (0, 0) = cur.getD (k0 + (j - 1)) (0, 0)) : Cpt l cur k (k0 + (j + 1)) :=
  cpt_same (j := k0 + j) h hj (by rw [show k0 + (j - 1) = k0 + j - 1 by omega] at e; exact e)
theorem qC1 {l cur : List (Int × Int)} {k k0 j : Nat} (h1 : 1 ≤ j) (h : Cpt l cur k (k0 + j)) (hj : k0 + j < l.length) (e : cur.getD (k0 + j) (0, 0) ≠ cur.getD (k0 + (j - 1)) (0, 0)) : Cpt l (cur.set k ((cur.getD (k0 + j) (0, 0)).1, (cur.getD (k0 + j) (0, 0)).2)) (k + 1) (k0 + (j + 1)) :=
  cpt_new (j := k0 + j) h hj (by rw [show k0 + (j - 1) = k0 + j - 1 by omega] at e; exact e) rfl rfl
theorem nb_f {b : Bool} (h : (!b) = false) : b = true := by simpa using h
theorem nb_t {b : Bool} (h : (!b) = true) : b = false := by simpa using h
theorem cut_take {ps : List (Int × Int)} {k : Nat} : (ps.take k).flatMap ptc = (ps.flatMap ptc).take (2 * k) := by
  have := uM (ps := ps) (off := 0) (j := 0) (m := 2 * k) (k := k) (by omega) rfl
  rw [List.drop_zero, List.drop_zero] at this; exact this.symm
def stk (l : List (Int × Int)) : Nat → List (Int × Int)
  | 0 => []
  | i + 1 => l.getD i (0, 0) :: popC (l.getD i (0, 0)) (stk l i)
/-- a chain without its last point -/
def chO (l : List (Int × Int)) : List (Int × Int) := (stk l l.length).tail.reverse
theorem qA7 {q : Int × Int} : ∀ {c : List (Int × Int)} {p : Int × Int}, p ∈ popC q c → p ∈ c
  | [], p, h => h
  | [a], p, h => h
  | b :: a :: r, p, h => by
    rw [popC] at h
    split at h
    · exact List.mem_cons_of_mem _ (qA7 h)
    · exact h
theorem xT {l : List (Int × Int)} : ∀ {i : Nat} {p : Int × Int}, i ≤ l.length → p ∈ stk l i → p ∈ l
  | 0, p, _, h => by simp [stk] at h
  | i + 1, p, hi, h => by
    rcases List.mem_cons.1 h with e | e
    · rw [e, jV (by omega)]; exact List.getElem_mem _
    · exact xT (by omega) (qA7 e)
theorem few_stk {m : Int} {bs l c : List (Int × Int)} (hm : 0 ≤ m) (hb : Few m bs) (hl : Few m l) (hc : ∀ p ∈ c, p ∈ l) : Few m (bs ++ c.reverse) := by
  refine uB hm (fun q hq => ?_)
  rcases List.mem_append.1 hq with k | k
  · exact wS hb k
  · exact wS hl (hc q (List.mem_reverse.1 k))
theorem pX {q : Int × Int} {c : List (Int × Int)} (h : c.length ≤ 1) : popC q c = c := by
  match c, h with
  | [], _ => rfl
  | [a], _ => rfl
theorem top_two {bs c : List (Int × Int)} (h : 2 ≤ c.length) : ∃ b a r, c = b :: a :: r ∧ (bs ++ c.reverse).getD (bs.length + c.length - 1) (0, 0) = b ∧ (bs ++ c.reverse).getD (bs.length + c.length - 2) (0, 0) = a := by
  match c, h with
  | b :: a :: r, _ =>
    refine ⟨b, a, r, rfl, ?_, ?_⟩
    · rw [List.getD_eq_getElem?_getD, List.getElem?_append_right (by simp only [List.length_cons]; omega)]
      rw [show bs.length + (b :: a :: r).length - 1 - bs.length = r.length + 1 by simp only [List.length_cons]; omega]; simp
    · rw [List.getD_eq_getElem?_getD, List.getElem?_append_right (by simp only [List.length_cons]; omega)]
      rw [show bs.length + (b :: a :: r).length - 2 - bs.length = r.length by simp only [List.length_cons]; omega]; simp
/-- the code's test: may the last one be taken out? -/
def popB (L : List (Int × Int)) (N : Nat) (x y : Int) : Bool := decide (crs (L.getD (N - 2) (0, 0)).1 (L.getD (N - 2) (0, 0)).2 (L.getD (N - 1) (0, 0)).1 (L.getD (N - 1) (0, 0)).2 x y ≤ 0)
theorem qA9 (L N x y) : decide (cmp (crs (List.getD L (N - 2) (0, 0)).1 (List.getD L (N - 2) (0, 0)).2 (List.getD L (N - 1) (0, 0)).1 (List.getD L (N - 1) (0, 0)).2 x y) 0 ≤ 0) = popB L N x y := by
  unfold popB; rw [Bool.eq_iff_iff, decide_eq_true_eq, decide_eq_true_eq]; unfold cmp; split <;> (try split) <;> omega
theorem qA6 {bs c : List (Int × Int)} {q : Int × Int} (h : 2 ≤ c.length) (hb : popB (bs ++ c.reverse) (bs.length + c.length) q.1 q.2 = true) : popC q c.tail = popC q c := by
  obtain ⟨b, a, r, rfl, e1, e2⟩ := top_two (bs := bs) h
  unfold popB at hb
  rw [e1, e2, decide_eq_true_eq] at hb
  rw [List.tail_cons, popC.eq_1, if_pos (show crP a b q ≤ 0 from hb)]
theorem popC_no {bs c : List (Int × Int)} {q : Int × Int} (h : 2 ≤ c.length) (hb : popB (bs ++ c.reverse) (bs.length + c.length) q.1 q.2 = false) : popC q c = c := by
  obtain ⟨b, a, r, rfl, e1, e2⟩ := top_two (bs := bs) h
  unfold popB at hb
  rw [e1, e2, decide_eq_false_iff_not] at hb
  rw [popC, if_neg (show ¬ crP a b q ≤ 0 from hb)]
theorem e6 {l c : List (Int × Int)} {i : Nat} (h : popC (l.getD i (0, 0)) c = popC (l.getD i (0, 0)) (stk l i)) (h2 : popC (l.getD i (0, 0)) c = c) : stk l (i + 1) = l.getD i (0, 0) :: c := by
  rw [stk, ← h, h2]
theorem sG {l : List (Int × Int)} {i : Nat} (h : 1 ≤ i) : 1 ≤ (stk l i).length := by
  cases i with
  | zero => omega
  | succ i => simp [stk]
theorem qA8 {q : Int × Int} : ∀ {c : List (Int × Int)}, (popC q c).length ≤ c.length
  | [] => Nat.le_refl _
  | [a] => Nat.le_refl _
  | b :: a :: r => by
    rw [popC]
    split
    · exact Nat.le_trans qA8 (by simp)
    · exact Nat.le_refl _
theorem xC (l : List (Int × Int)) : ∀ i, (stk l i).length ≤ i
  | 0 => Nat.le_refl _
  | i + 1 => by rw [stk, List.length_cons]; have := qA8 (q := l.getD i (0, 0)) (c := stk l i); have := xC l i; omega
theorem eM {l : List (Int × Int)} : (chO l).length = (stk l l.length).length - 1 := by unfold chO; simp
theorem stk_chS {l : List (Int × Int)} : ∀ (k i : Nat), i + k = l.length → chS (stk l i) (l.drop i) = stk l l.length
  | 0, i, h => by rw [List.drop_of_length_le (by omega), show i = l.length by omega]; rfl
  | k + 1, i, h => by
    rw [List.drop_eq_getElem_cons (by omega), chS, ← stk_chS k (i + 1) (by omega), stk, jV (by omega)]
theorem sH (l : List (Int × Int)) : stk l l.length = chS [] l := by
  have := stk_chS (l := l) l.length 0 (by omega)
  rw [List.drop_zero] at this; exact this.symm
theorem dE {bs c : List (Int × Int)} (h : 1 ≤ c.length) : ((bs ++ c.tail.reverse).flatMap ptc) = ((bs ++ c.reverse).flatMap ptc).take (2 * (bs.length + c.length - 1)) := by
  rw [← cut_take]
  congr 1
  match c, h with
  | a :: r, _ =>
    rw [List.tail_cons, List.reverse_cons, ← List.append_assoc, List.take_append_of_le_length (by simp), List.take_of_length_le (by simp)]
theorem dA {bs l c : List (Int × Int)} {i : Nat} (h : popC (l.getD i (0, 0)) c = popC (l.getD i (0, 0)) (stk l i)) (h2 : popC (l.getD i (0, 0)) c = c) :
    (bs ++ c.reverse).flatMap ptc ++ [.int .i64 (l.getD i (0, 0)).1, .int .i64 (l.getD i (0, 0)).2] = (bs ++ (stk l (i + 1)).reverse).flatMap ptc := by
  rw [e6 h h2]; simp [ptc]
theorem stk_len_next {l c : List (Int × Int)} {i : Nat} (n : Nat) (h : popC (l.getD i (0, 0)) c = popC (l.getD i (0, 0)) (stk l i)) (h2 : popC (l.getD i (0, 0)) c = c) : n + (stk l (i + 1)).length = n + c.length + 1 := by
  rw [e6 h h2, List.length_cons]; omega
theorem qC4 {bs l : List (Int × Int)} (h : 1 ≤ l.length) : (bs ++ chO l).length = bs.length + (stk l l.length).length - 1 := by
  rw [List.length_append, eM]; have := sG (l := l) h; omega
/-- the hull of points in their order, each once -/
def qEE (s : List (Int × Int)) : List (Int × Int) := if s.length < 2 then s else chO s ++ chO s.reverse
/-- the hull of points -/
def vA (ps : List (Int × Int)) : List (Int × Int) := qEE (ddp (srtP ps))
theorem c5 {qs ss ds : List (Int × Int)} (hss : srtP qs = ss) (hds : ddp ss = ds) (h : ds.length < 2) : vA qs = ds := by
  unfold vA qEE; rw [hss, hds, if_pos h]
theorem p9 {qs ss ds : List (Int × Int)} (hss : srtP qs = ss) (hds : ddp ss = ds) (h : ¬ ds.length < 2) : vA qs = chO ds ++ chO ds.reverse := by
  unfold vA qEE; rw [hss, hds, if_neg h]
theorem uL : ∀ {l : List (Int × Int)} {p : Int × Int}, p ∈ ddp l ↔ p ∈ l
  | [], p => Iff.rfl
  | [a], p => Iff.rfl
  | a :: b :: r, p => by
    have ih := uL (l := b :: r) (p := p)
    rw [ddp]
    split
    · rename_i h; subst h; rw [ih]; simp
    · rw [List.mem_cons, ih, List.mem_cons]
      simp [List.mem_cons]
theorem wG (l : List (Int × Int)) : (ddp l).length ≤ l.length := by
  match l with
  | [] => exact Nat.le_refl _
  | [a] => exact Nat.le_refl _
  | a :: b :: r =>
    have ih := wG (b :: r)
    rw [ddp]
    split
    · exact Nat.le_trans ih (by simp)
    · simp only [List.length_cons] at *; omega
theorem ddp_pos {l : List (Int × Int)} (h : 1 ≤ l.length) : 1 ≤ (ddp l).length := by
  cases l with
  | nil => simp at h
  | cons a r => obtain ⟨t, e⟩ := bN a r; rw [e]; simp
theorem chO_mem {l : List (Int × Int)} {p : Int × Int} (h : p ∈ chO l) : p ∈ l := by
  unfold chO at h
  exact xT (Nat.le_refl _) (List.mem_of_mem_tail (List.mem_reverse.1 h))
theorem mH (l : List (Int × Int)) : (chO l).length ≤ l.length := by rw [eM]; have := xC l l.length; omega
/-- is the point left of all edges from here on? -/
def hasL (h : List (Int × Int)) (x y : Int) (i : Nat) : Bool :=
  if i < h.length then if crs (h.getD i (0, 0)).1 (h.getD i (0, 0)).2 (h.getD ((i + 1) % h.length) (0, 0)).1 (h.getD ((i + 1) % h.length) (0, 0)).2 x y < 0 then false else hasL h x y (i + 1) else true
termination_by h.length - i
theorem hasL_end {h : List (Int × Int)} {x y : Int} {i : Nat} (hi : ¬ i < h.length) : hasL h x y i = true := by rw [hasL, if_neg hi]
theorem cmp_lt0 (n : Int) : decide (cmp n 0 < 0) = decide (n < 0) := by
  rw [Bool.eq_iff_iff, decide_eq_true_eq, decide_eq_true_eq]; unfold cmp; split <;> (try split) <;> omega
theorem hasL_out {h : List (Int × Int)} {x y : Int} {i j : Nat} (hi : i < h.length) (hj : (i + 1) % h.length = j) (e : decide (cmp (crs (h.getD i (0, 0)).1 (h.getD i (0, 0)).2 (h.getD j (0, 0)).1 (h.getD j (0, 0)).2 x y) 0 < 0) = true) : hasL h x y i = false := by
  rw [cmp_lt0, decide_eq_true_eq] at e
  rw [hasL, if_pos hi, hj, if_pos e]
theorem rW {h : List (Int × Int)} {x y : Int} {i j : Nat} (hi : i < h.length) (hj : (i + 1) % h.length = j) (e : decide (cmp (crs (h.getD i (0, 0)).1 (h.getD i (0, 0)).2 (h.getD j (0, 0)).1 (h.getD j (0, 0)).2 x y) 0 < 0) = false) : hasL h x y (i + 1) = hasL h x y i := by
  rw [cmp_lt0, decide_eq_false_iff_not] at e
  conv => rhs; rw [hasL, if_pos hi, hj, if_neg e]
/-- does the hull contain the point? -/
def hasH (h : List (Int × Int)) (x y : Int) : Bool :=
  if h.length = 0 then false else if h.length = 1 then (((h.getD 0 (0, 0)).1 == x) && (((h.getD 0 (0, 0)).2 == y) && true))
  else if h.length = 2 then onb (h.getD 0 (0, 0)).1 (h.getD 0 (0, 0)).2 (h.getD 1 (0, 0)).1 (h.getD 1 (0, 0)).2 x y else hasL h x y 0
theorem wK {h : List (Int × Int)} {x y : Int} (e : h.length = 0) : hasH h x y = false := by unfold hasH; rw [if_pos e]
theorem x6 {h : List (Int × Int)} {x y : Int} (e : h.length = 1) : hasH h x y = (((h.getD 0 (0, 0)).1 == x) && (((h.getD 0 (0, 0)).2 == y) && true)) := by unfold hasH; rw [if_neg (by omega), if_pos e]
theorem x5 {h : List (Int × Int)} {x y : Int} (e : h.length = 2) : hasH h x y = onb (h.getD 0 (0, 0)).1 (h.getD 0 (0, 0)).2 (h.getD 1 (0, 0)).1 (h.getD 1 (0, 0)).2 x y := by unfold hasH; rw [if_neg (by omega), if_neg (by omega), if_pos e]
theorem hasH_3 {h : List (Int × Int)} {x y : Int} (e : 3 ≤ h.length) : hasH h x y = hasL h x y 0 := by unfold hasH; rw [if_neg (by omega), if_neg (by omega), if_neg (by omega)]
def negP (p : Int × Int) : Int × Int := (-p.1, -p.2)
theorem crP_neg (a b c : Int × Int) : crP (negP a) (negP b) (negP c) = crP a b c := by unfold crP crs negP; grind
theorem cV {a b : Int × Int} : lxP (negP a) (negP b) ↔ lxP b a := by unfold lxP negP; simp only []; omega
theorem dH {a b : Int × Int} (h : negP a = negP b) : a = b := by
  unfold negP at h; rw [Prod.mk.injEq] at h; exact Prod.ext (by omega) (by omega)
theorem popC_map (q : Int × Int) : ∀ (c : List (Int × Int)), popC (negP q) (c.map negP) = (popC q c).map negP
  | [] => rfl
  | [a] => rfl
  | b :: a :: r => by
    have ih := popC_map q (a :: r)
    rw [List.map_cons] at ih
    rw [List.map_cons, List.map_cons, popC, popC, crP_neg, ih]
    split <;> rfl
theorem eL : ∀ (l acc : List (Int × Int)), chS (acc.map negP) (l.map negP) = (chS acc l).map negP
  | [], acc => rfl
  | q :: t, acc => by
    rw [List.map_cons, chS, chS, popC_map, ← List.map_cons]
    exact eL t _
theorem Lf.at {S : List (Int × Int)} : ∀ {C : List (Int × Int)} {j : Nat}, Lf S C → j + 1 < C.length → ∀ p ∈ S, 0 ≤ crP (C.getD (j + 1) (0, 0)) (C.getD j (0, 0)) p
  | b :: a :: r, 0, h, _, p, hp => h.1 p hp
  | b :: a :: r, j + 1, h, hj, p, hp => Lf.at (C := a :: r) (j := j) h.2 (by simpa using hj) p hp
  | [x], j, _, hj, _, _ => by simp at hj
  | [], j, _, hj, _, _ => by simp at hj
theorem Tr.at : ∀ {C : List (Int × Int)} {j : Nat}, Tr C → j + 2 < C.length → 0 < crP (C.getD (j + 2) (0, 0)) (C.getD (j + 1) (0, 0)) (C.getD j (0, 0))
  | c :: b :: a :: r, 0, h, _ => h.1
  | c :: b :: a :: r, j + 1, h, hj => Tr.at (C := b :: a :: r) (j := j) h.2 (by simpa using hj)
  | [x, y], j, _, hj => by simp only [List.length_cons, List.length_nil] at hj; omega
  | [x], j, _, hj => by simp at hj
  | [], j, _, hj => by simp at hj
theorem Ds.at : ∀ {C : List (Int × Int)} {j : Nat}, Ds C → j + 1 < C.length → lxP (C.getD (j + 1) (0, 0)) (C.getD j (0, 0))
  | b :: a :: r, 0, h, _ => h.1
  | b :: a :: r, j + 1, h, hj => Ds.at (C := a :: r) (j := j) h.2 (by simpa using hj)
  | [x], j, _, hj => by simp at hj
  | [], j, _, hj => by simp at hj
theorem qBJ : ∀ {l : List (Int × Int)}, l.Pairwise (fun a b => leB a b = true) → (ddp l).Pairwise lxP
  | [], h => .nil
  | [a], h => List.pairwise_singleton _ _
  | a :: b :: r, h => by
    have hh := List.pairwise_cons.1 h
    have ih := qBJ hh.2
    rw [ddp]
    split
    · exact ih
    · rename_i hne
      refine List.pairwise_cons.2 ⟨fun x hx => ?_, ih⟩
      have hx' := uL.1 hx
      have h1 := (leB_iff a x).1 (hh.1 x hx')
      rcases lxP.tri a x with k | k | k
      · exact k
      · subst k
        exfalso
        rcases List.mem_cons.1 hx' with e | e
        · exact hne e
        · have h2 := (List.pairwise_cons.1 hh.2).1 a e
          exact hne (qB0 (hh.1 b (by simp)) h2)
      · exact (h1 k).elim
/-- the points of a list in their order, each once -/
def srd (ps : List (Int × Int)) : List (Int × Int) := ddp (srtP ps)
theorem dB (ps) : (srd ps).Pairwise lxP := qBJ (cC ps)
theorem xV {ps : List (Int × Int)} {p : Int × Int} : p ∈ srd ps ↔ p ∈ ps := uL.trans (xU ps).mem_iff
/-- both chains of points in their order -/
structure Hul (S L U : List (Int × Int)) : Prop where
  low : Chn S L
  up : Chn (S.map negP) (U.map negP)
theorem rV {s : List (Int × Int)} (h : s.Pairwise lxP) (h1 : 1 ≤ s.length) : Hul s (stk s s.length) (stk s.reverse s.reverse.length) := by
  rw [sH, sH]
  cases s with
  | nil => simp at h1
  | cons a t =>
    refine ⟨chn_of h, ?_⟩
    have hr : ((a :: t).reverse.map negP).Pairwise lxP := by
      rw [List.pairwise_map]
      exact List.pairwise_reverse.2 (h.imp (fun k => cV.2 k))
    cases hx : (a :: t).reverse with
    | nil => simp at hx
    | cons b r =>
      rw [hx, List.map_cons] at hr
      have := chn_of hr
      have e : chS ([] : List (Int × Int)) (negP b :: r.map negP) = (chS [] (b :: r)).map negP := eL (b :: r) []
      rw [e] at this
      have hmem : ∀ p, p ∈ negP b :: r.map negP ↔ p ∈ (a :: t).map negP := fun p => by
        rw [← List.map_cons, ← hx, List.map_reverse, List.mem_reverse]
      refine this.less (fun p hp => (hmem p).2 hp) (fun p hp => (hmem p).1 (this.sub p hp))
theorem getD_map_neg {l : List (Int × Int)} {i : Nat} : (l.map negP).getD i (0, 0) = negP (l.getD i (0, 0)) := by
  rw [List.getD_eq_getElem?_getD, List.getElem?_map, List.getD_eq_getElem?_getD]
  cases l[i]? with
  | none => rfl
  | some x => rfl
section
variable {S L U : List (Int × Int)} (h : Hul S L U)
include h
theorem Hul.lowL {j : Nat} (hj : j + 1 < L.length) {p : Int × Int} (hp : p ∈ S) : 0 ≤ crP (L.getD (j + 1) (0, 0)) (L.getD j (0, 0)) p := h.low.lf.at hj p hp
theorem Hul.upL {j : Nat} (hj : j + 1 < U.length) {p : Int × Int} (hp : p ∈ S) : 0 ≤ crP (U.getD (j + 1) (0, 0)) (U.getD j (0, 0)) p := by
  have := h.up.lf.at (j := j) (by simpa using hj) (negP p) (List.mem_map.2 ⟨p, hp, rfl⟩)
  rw [getD_map_neg, getD_map_neg, crP_neg] at this; exact this
theorem Hul.posL : 1 ≤ L.length := by obtain ⟨c, r, e, _⟩ := h.low.tp; rw [e]; simp
theorem Hul.posU : 1 ≤ U.length := by
  obtain ⟨c, r, e, _⟩ := h.up.tp
  have : (U.map negP).length = (c :: r).length := by rw [e]
  simp at this; omega
theorem Hul.top : L.getD 0 (0, 0) ∈ S ∧ ∀ p ∈ S, p = L.getD 0 (0, 0) ∨ lxP p (L.getD 0 (0, 0)) := by
  obtain ⟨c, r, e, k⟩ := h.low.tp
  subst e
  exact ⟨h.low.sub c (by simp), k⟩
theorem Hul.bot : L.getD (L.length - 1) (0, 0) ∈ S ∧ ∀ p ∈ S, p = L.getD (L.length - 1) (0, 0) ∨ lxP (L.getD (L.length - 1) (0, 0)) p := by
  obtain ⟨z, e, k⟩ := h.low.bt
  have hp := h.posL
  rw [List.getLast?_eq_getElem?, List.getElem?_eq_getElem (by omega), Option.some.injEq] at e
  rw [jV (by omega), e]
  exact ⟨h.low.sub z (e ▸ List.getElem_mem _), k⟩
theorem Hul.upS {p : Int × Int} (hp : p ∈ U) : p ∈ S := by
  have := h.up.sub (negP p) (List.mem_map.2 ⟨p, hp, rfl⟩)
  obtain ⟨q, hq, e⟩ := List.mem_map.1 this
  exact dH e ▸ hq
/-- the upper chain begins where the lower one ends, and ends where it begins -/
theorem Hul.utop : U.getD 0 (0, 0) = L.getD (L.length - 1) (0, 0) := by
  obtain ⟨c, r, e, k⟩ := h.up.tp
  have hp := h.posU
  have e0 : negP (U.getD 0 (0, 0)) = c := by rw [← getD_map_neg, e]; rfl
  have hU : U.getD 0 (0, 0) ∈ S := h.upS (by rw [jV hp]; exact List.getElem_mem _)
  rcases h.bot.2 _ hU with q | q
  · exact q
  · have := k (negP (L.getD (L.length - 1) (0, 0))) (List.mem_map.2 ⟨_, h.bot.1, rfl⟩)
    rw [← e0] at this
    rcases this with g | g
    · exact (dH g).symm
    · exact (q.trans (cV.1 g)).irr.elim
theorem Hul.ubot : U.getD (U.length - 1) (0, 0) = L.getD 0 (0, 0) := by
  obtain ⟨z, e, k⟩ := h.up.bt
  have hp := h.posU
  rw [List.getLast?_eq_getElem?, List.getElem?_map, List.length_map, List.getElem?_eq_getElem (by omega)] at e
  have e0 : negP (U.getD (U.length - 1) (0, 0)) = z := by rw [jV (by omega)]; simpa using e
  have hU : U.getD (U.length - 1) (0, 0) ∈ S := h.upS (by rw [jV (by omega)]; exact List.getElem_mem _)
  rcases h.top.2 _ hU with q | q
  · exact q
  · have := k (negP (L.getD 0 (0, 0))) (List.mem_map.2 ⟨_, h.top.1, rfl⟩)
    rw [← e0] at this
    rcases this with g | g
    · exact (dH g).symm
    · exact (q.trans (cV.1 g)).irr.elim
/-- the corners: the lower chain to the right, the upper one back -/
def w9 (L U : List (Int × Int)) : List (Int × Int) := L.tail.reverse ++ U.tail.reverse
omit h in
theorem y8 : (w9 L U).length = (L.length - 1) + (U.length - 1) := by unfold w9; simp
omit h in
theorem e5 {C : List (Int × Int)} {i : Nat} (hi : i < C.length - 1) : C.tail.reverse.getD i (0, 0) = C.getD (C.length - 1 - i) (0, 0) := by
  rw [jV (by simpa using hi), List.getElem_reverse, List.getElem_tail, jV (by omega)]
  congr 1
  simp only [List.length_tail]; omega
/-- the place of a corner -/
def cnr (L U : List (Int × Int)) (i : Nat) : Int × Int := if i ≤ L.length - 1 then L.getD (L.length - 1 - i) (0, 0) else U.getD (U.length - 1 - (i - (L.length - 1))) (0, 0)
theorem Hul.ring_at {i : Nat} (hi : i < (w9 L U).length) : (w9 L U).getD i (0, 0) = cnr L U i := by
  rw [y8] at hi
  unfold cnr w9
  have hp := h.posL
  by_cases c : i < L.length - 1
  · rw [if_pos (by omega), List.getD_eq_getElem?_getD, List.getElem?_append_left (by simpa using c), ← List.getD_eq_getElem?_getD, e5 c]
  · have e : ((L.tail.reverse ++ U.tail.reverse).getD i (0, 0)) = U.getD (U.length - 1 - (i - (L.length - 1))) (0, 0) := by
      rw [List.getD_eq_getElem?_getD, List.getElem?_append_right (by simp; omega), ← List.getD_eq_getElem?_getD]
      rw [show i - L.tail.reverse.length = i - (L.length - 1) by simp, e5 (by omega)]
    rw [e]
    split
    · have : i = L.length - 1 := by omega
      subst this
      rw [Nat.sub_self, Nat.sub_zero, h.ubot]
    · rfl
theorem Hul.two (h2 : 2 ≤ L.length) : 2 ≤ U.length := by
  rcases Nat.lt_or_ge U.length 2 with c | c
  · have hp := h.posU
    have e := h.utop
    have e2 := h.ubot
    rw [show U.length - 1 = 0 by omega, e] at e2
    -- the lowest one is the highest one
    have hd := h.low.ds.at (j := 0) (by omega)
    have hb := h.bot.2 (L.getD 1 (0, 0)) (h.low.sub _ (by rw [jV (by omega)]; exact List.getElem_mem _))
    rw [e2] at hb
    rcases hb with k | k
    · rw [k] at hd; exact hd.irr.elim
    · exact (hd.trans k).irr.elim
  · exact c
theorem Hul.cnr_end (h2 : 2 ≤ L.length) : cnr L U ((w9 L U).length) = cnr L U 0 := by
  have hu := h.two h2
  rw [y8]
  unfold cnr
  rw [if_neg (by omega), if_pos (by omega), show U.length - 1 - (L.length - 1 + (U.length - 1) - (L.length - 1)) = 0 by omega, h.utop, Nat.sub_zero]
/-- from a corner to the next one -/
theorem Hul.next (h2 : 2 ≤ L.length) {i : Nat} (hi : i < (w9 L U).length) : (w9 L U).getD ((i + 1) % (w9 L U).length) (0, 0) = cnr L U (i + 1) := by
  have hu := h.two h2
  by_cases c : i + 1 = (w9 L U).length
  · rw [c, Nat.mod_self, h.ring_at (by omega), h.cnr_end h2]
  · rw [Nat.mod_eq_of_lt (by omega), h.ring_at (by omega)]
theorem Hul.edge (h2 : 2 ≤ L.length) {i : Nat} (hi : i < (w9 L U).length) {p : Int × Int} (hp : p ∈ S) : 0 ≤ crP (cnr L U i) (cnr L U (i + 1)) p := by
  have hu := h.two h2
  rw [y8] at hi
  unfold cnr
  by_cases c : i < L.length - 1
  · rw [if_pos (by omega), if_pos (by omega)]
    have := h.lowL (j := L.length - 1 - (i + 1)) (by omega) hp
    rwa [show L.length - 1 - (i + 1) + 1 = L.length - 1 - i by omega] at this
  · rw [if_neg (show ¬ i + 1 ≤ L.length - 1 by omega)]
    have := h.upL (j := U.length - 1 - (i + 1 - (L.length - 1))) (by omega) hp
    rw [show U.length - 1 - (i + 1 - (L.length - 1)) + 1 = U.length - 1 - (i - (L.length - 1)) by omega] at this
    split
    · have e : i = L.length - 1 := by omega
      subst e
      rw [Nat.sub_self, Nat.sub_zero, h.ubot] at this
      rw [Nat.sub_self]; exact this
    · exact this
omit h in
end
theorem qB6 (ps : List (Int × Int)) : vA ps = qEE (srd ps) := rfl
theorem xY {ps : List (Int × Int)} (h : 2 ≤ (srd ps).length) : vA ps = w9 (stk (srd ps) (srd ps).length) (stk (srd ps).reverse (srd ps).reverse.length) := by
  rw [qB6]; unfold qEE; rw [if_neg (by omega)]; rfl
theorem xZ {ps : List (Int × Int)} (h : (srd ps).length < 2) : vA ps = srd ps := by
  rw [qB6]; unfold qEE; rw [if_pos h]
theorem Hul.longL {S L U : List (Int × Int)} (h : Hul S L U) {a b : Int × Int} (ha : a ∈ S) (hb : b ∈ S) (hne : a ≠ b) : 2 ≤ L.length := by
  rcases Nat.lt_or_ge L.length 2 with c | c
  · have hp := h.posL
    have e : L.length - 1 = 0 := by omega
    have key : ∀ p ∈ S, p = L.getD 0 (0, 0) := fun p hp => by
      have t := h.top.2 p hp
      have u := h.bot.2 p hp
      rw [e] at u
      rcases t with t | t
      · exact t
      · rcases u with u | u
        · exact u
        · exact (t.trans u).irr.elim
    exact (hne ((key a ha).trans (key b hb).symm)).elim
  · exact c
theorem two_ne {s : List (Int × Int)} (h : s.Pairwise lxP) (h2 : 2 ≤ s.length) : ∃ a b, a ∈ s ∧ b ∈ s ∧ a ≠ b := by
  match s, h2 with
  | a :: b :: r, _ =>
    have := (List.pairwise_cons.1 h).1 b (by simp)
    exact ⟨a, b, by simp, by simp, fun e => (e ▸ this).irr⟩
theorem nL {ps : List (Int × Int)} (h : 2 ≤ (srd ps).length) : Hul (srd ps) (stk (srd ps) (srd ps).length) (stk (srd ps).reverse (srd ps).reverse.length) ∧ 2 ≤ (stk (srd ps) (srd ps).length).length := by
  have q := rV (dB ps) (by omega)
  obtain ⟨a, b, ha, hb, hne⟩ := two_ne (dB ps) h
  exact ⟨q, q.longL ha hb hne⟩
theorem srd_pos {ps : List (Int × Int)} (h : 1 ≤ ps.length) : 1 ≤ (srd ps).length := by
  cases ps with
  | nil => simp at h
  | cons a r =>
    have : a ∈ srd (a :: r) := xV.2 (by simp)
    cases hs : srd (a :: r) with
    | nil => rw [hs] at this; simp at this
    | cons _ _ => simp
theorem srd_len (ps : List (Int × Int)) : (srd ps).length ≤ ps.length := by
  unfold srd; have := wG (srtP ps); rw [x9] at this; exact this
theorem hull_sub {ps : List (Int × Int)} {q : Int × Int} (h : q ∈ vA ps) : q ∈ ps := by
  rcases Nat.lt_or_ge (srd ps).length 2 with c | c
  · rw [xZ c] at h; exact xV.1 h
  · rw [xY c] at h
    unfold w9 at h
    rcases List.mem_append.1 h with k | k
    · exact xV.1 (xT (Nat.le_refl _) (List.mem_of_mem_tail (List.mem_reverse.1 k)))
    · exact xV.1 (List.mem_reverse.1 (xT (Nat.le_refl _) (List.mem_of_mem_tail (List.mem_reverse.1 k))))
theorem qB4 {ps : List (Int × Int)} (h : 1 ≤ ps.length) : 1 ≤ (vA ps).length ∧ (vA ps).length ≤ 2 * ps.length := by
  have hp := srd_pos h
  have hl := srd_len ps
  rcases Nat.lt_or_ge (srd ps).length 2 with c | c
  · rw [xZ c]; omega
  · obtain ⟨q, q2⟩ := nL c
    have a := xC (srd ps) (srd ps).length
    have b := xC (srd ps).reverse (srd ps).reverse.length
    rw [List.length_reverse] at b
    rw [xY c, y8]
    rw [List.length_reverse]
    omega
/-- all points are left of all edges -/
theorem c4 {ps : List (Int × Int)} (h2 : 2 ≤ (vA ps).length) {i : Nat} (hi : i < (vA ps).length) {p : Int × Int} (hp : p ∈ ps) : 0 ≤ crP ((vA ps).getD i (0, 0)) ((vA ps).getD ((i + 1) % (vA ps).length) (0, 0)) p := by
  rcases Nat.lt_or_ge (srd ps).length 2 with c | c
  · rw [xZ c] at h2; omega
  · obtain ⟨q, q2⟩ := nL c
    rw [xY c] at *
    rw [q.ring_at hi, q.next q2 hi]
    exact q.edge q2 hi (xV.2 hp)
theorem qB8 {h : List (Int × Int)} {x y : Int} (hc : ∀ i, i < h.length → 0 ≤ crs (h.getD i (0, 0)).1 (h.getD i (0, 0)).2 (h.getD ((i + 1) % h.length) (0, 0)).1 (h.getD ((i + 1) % h.length) (0, 0)).2 x y) : ∀ (k i : Nat), i + k = h.length → hasL h x y i = true
  | 0, i, e => hasL_end (by omega)
  | k + 1, i, e => by rw [hasL, if_pos (by omega), if_neg (by have := hc i (by omega); omega)]; exact qB8 hc k (i + 1) (by omega)
/-- on one line, and between -/
theorem qE0 {a b p : Int × Int} (hab : lxP a b) (h0 : crP a b p = 0) (h1 : p = a ∨ lxP a p) (h2 : p = b ∨ lxP p b) : onb a.1 a.2 b.1 b.2 p.1 p.2 = true := by
  rw [onb_iff]
  refine ⟨h0, ?_⟩
  have e : dot p.1 p.2 a.1 a.2 b.1 b.2 = -((p.1 - a.1) * (b.1 - p.1) + (p.2 - a.2) * (b.2 - p.2)) := by unfold dot; grind
  have c : (b.1 - a.1) * (p.2 - a.2) = (b.2 - a.2) * (p.1 - a.1) := by rw [xK] at h0; omega
  have w1 : 0 ≤ p.1 - a.1 ∧ 0 ≤ b.1 - p.1 := by
    constructor
    · rcases h1 with k | k
      · subst k; omega
      · unfold lxP at k; omega
    · rcases h2 with k | k
      · subst k; omega
      · unfold lxP at k; omega
  have m1 := bH w1.1 w1.2
  rw [e]
  rcases hab with hd | ⟨hd, hd2⟩
  · -- the second coordinate in proportion
    have sq : (b.1 - a.1) * (b.1 - a.1) * ((p.2 - a.2) * (b.2 - p.2)) = (b.2 - a.2) * (b.2 - a.2) * ((p.1 - a.1) * (b.1 - p.1)) := by
      have f1 : (b.1 - a.1) * (b.2 - p.2) = (b.2 - a.2) * (b.1 - p.1) := by grind
      calc (b.1 - a.1) * (b.1 - a.1) * ((p.2 - a.2) * (b.2 - p.2)) = ((b.1 - a.1) * (p.2 - a.2)) * ((b.1 - a.1) * (b.2 - p.2)) := by grind
        _ = ((b.2 - a.2) * (p.1 - a.1)) * ((b.2 - a.2) * (b.1 - p.1)) := by rw [c, f1]
        _ = _ := by grind
    have pos : 0 < (b.1 - a.1) * (b.1 - a.1) := Int.mul_pos (by omega) (by omega)
    have nn : 0 ≤ (b.2 - a.2) * (b.2 - a.2) * ((p.1 - a.1) * (b.1 - p.1)) := bH (yC _) m1
    have : 0 ≤ (p.2 - a.2) * (b.2 - p.2) := by
      apply Classical.byContradiction
      intro k
      have := Int.mul_neg_of_pos_of_neg pos (show (p.2 - a.2) * (b.2 - p.2) < 0 by omega)
      omega
    omega
  · have z1 : p.1 - a.1 = 0 := by omega
    have w2 : 0 ≤ p.2 - a.2 ∧ 0 ≤ b.2 - p.2 := by
      constructor
      · rcases h1 with k | k
        · subst k; omega
        · unfold lxP at k; omega
      · rcases h2 with k | k
        · subst k; omega
        · unfold lxP at k; omega
    have m2 := bH w2.1 w2.2
    omega
theorem qB5 {ps : List (Int × Int)} {p : Int × Int} (hp : p ∈ ps) : hasH (vA ps) p.1 p.2 = true := by
  have h1 : 1 ≤ ps.length := by cases ps with
    | nil => simp at hp
    | cons a r => simp
  have hl := qB4 h1
  rcases Nat.lt_or_ge (vA ps).length 2 with c | c
  · rw [x6 (by omega)]
    have : p = (vA ps).getD 0 (0, 0) := by
      rcases Nat.lt_or_ge (srd ps).length 2 with g | g
      · have hm := xV.2 hp
        rw [xZ g] at *
        match hs : srd ps, hm, c with
        | [a], hm, _ => exact List.mem_singleton.1 hm
      · obtain ⟨q, q2⟩ := nL g
        have := q.two q2
        rw [xY g, y8] at c; omega
    rw [← this]; simp
  · rcases Nat.lt_or_ge 2 (vA ps).length with d | d
    · rw [hasH_3 d]
      exact qB8 (fun i hi => c4 (ps := ps) (i := i) c hi hp) (vA ps).length 0 (by omega)
    · have e2 : (vA ps).length = 2 := by omega
      rw [x5 e2]
      have g : 2 ≤ (srd ps).length := by
        rcases Nat.lt_or_ge (srd ps).length 2 with g | g
        · rw [xZ g] at c; omega
        · exact g
      obtain ⟨q, q2⟩ := nL g
      have a0 := c4 (i := 0) c (by omega) hp
      have a1 := c4 (i := 1) c (by omega) hp
      rw [e2] at a0 a1
      simp only [Nat.zero_add, Nat.reduceMod, Nat.reduceAdd] at a0 a1
      have ee : crP ((vA ps).getD 1 (0, 0)) ((vA ps).getD 0 (0, 0)) p = -crP ((vA ps).getD 0 (0, 0)) ((vA ps).getD 1 (0, 0)) p := by unfold crP crs; grind
      have u2 := q.two q2
      have hn : w9 (stk (srd ps) (srd ps).length) (stk (srd ps).reverse (srd ps).reverse.length) = vA ps := (xY g).symm
      have hn2 := y8 (L := stk (srd ps) (srd ps).length) (U := stk (srd ps).reverse (srd ps).reverse.length)
      rw [hn] at hn2
      have r0 := q.ring_at (i := 0) (by rw [hn]; omega)
      have r1 := q.ring_at (i := 1) (by rw [hn]; omega)
      rw [hn] at r0 r1
      unfold cnr at r0 r1
      rw [if_pos (by omega), Nat.sub_zero] at r0
      rw [if_pos (by omega), show (stk (srd ps) (srd ps).length).length - 1 - 1 = 0 by omega] at r1
      refine qE0 ?_ (by omega) ?_ ?_
      · rw [r0, r1, show (stk (srd ps) (srd ps).length).length - 1 = 0 + 1 by omega]; exact q.low.ds.at (by omega)
      · rw [r0]; exact q.bot.2 p (xV.2 hp)
      · rw [r1]; exact q.top.2 p (xV.2 hp)
end Go.Proofs.Ytadifmimefmcnaa.Am.Sp
namespace Go.Proofs.Ytadifmimefmcnaa.Am
open Go Go.Proofs
theorem tD (ps : List (Int × Int)) (hz : ps.length ≤ 8796093021952) (h2 : ps.length < 2) :
    AC Try.prog 83 1 ([.slice (some ⟨0, 0, none⟩) ps.length 0]) [(0, ⟨(ps.flatMap ptc), 29, true, 2⟩)] (.slice (some ⟨0, 0, none⟩) ((Sp.ddp ps).length) 0) [(0, ⟨((Sp.ddp ps).flatMap ptc), 29, true, 2⟩)] := by
 have hdd := Sp.cmp_short h2
 refine qK Try.func83 (fun w0 W pin => ?_)
 refine aw_e 3 1 1<|qD 6 7<|aw_p 13 (
  .a 2 1 <| .p (qN true ((show (decide (((ps.length : Nat) : Int) < 2)) = true from decide_eq_true oO))) <| .nil _ _) ?_
 refine qR 26<|aw_e 53 2 1<|aw_w [(2, .slice (some ⟨0, 0, none⟩) ((Sp.ddp ps).length) 0)] [(0, ⟨((Sp.ddp ps).flatMap ptc), 29, true, 2⟩)] ?_ (by (try rw [hdd]); kernel_rfl) (by (try rw [hdd]); kernel_rfl) (hc := z15)
 exact qF<|qB [.slice (some ⟨0, 0, none⟩) ((Sp.ddp ps).length) 0] kK
theorem lJ (ps : List (Int × Int)) (hz : ps.length ≤ 8796093021952) (h2 : 2 ≤ ps.length) :
    AC Try.prog 83 1 ([.slice (some ⟨0, 0, none⟩) ps.length 0]) [(0, ⟨(ps.flatMap ptc), 29, true, 2⟩)] (.slice (some ⟨0, 0, none⟩) ((Sp.ddp ps).length) 0) [(0, ⟨((Sp.ddp ps).flatMap ptc), 29, true, 2⟩)] := by
 have hone := Sp.cmp_one ps
 refine qK Try.func83 (fun w0 W pin => ?_)
 refine aw_e 3 1 1<|qD 6 7<|aw_p 13 (
  .a 2 1 <| .p (qN false ((show (decide (((ps.length : Nat) : Int) < 2)) = false from decide_eq_false oO))) <| .nil _ _) ?_
 refine qP 27<|qH<|qD 14 15<|aw_e 29 1 1<|qM 0 59<|q6 119<|al_w _ _ (jS (fun i : Nat => (fun (k : Nat) => mkSt 1 [(0, .slice (some ⟨0, 0, none⟩) ps.length 0), (2, .slice none 0 0), (3, .int .i64 ((k : Nat) : Int))] [(0, ⟨(ps.flatMap ptc), 29, true, 2⟩)]) i) (fun i : Nat => (fun (k : Nat) => (1 ≤ k ∧ k ≤ ps.length) ∧ (Sp.ddp (ps.take k) = ps.take k)) i) (fun i : Nat => (fun (k : Nat) => ps.length - k) i) (fun i hi1 ih1 => ?_) 1 (show (1 ≤ 1 ∧ 1 ≤ ps.length) ∧ (Sp.ddp (ps.take 1) = ps.take 1) from ⟨by omega, by exact hone⟩)) (hc := z15)
 obtain ⟨k, hv1⟩ : ∃ z, z = i := ⟨i, rfl⟩; subst hv1
 have hi1' : (1 ≤ k ∧ k ≤ ps.length) ∧ (Sp.ddp (ps.take k) = ps.take k) := hi1
 obtain ⟨hk, hi⟩ := hi1'
 show AL _ _ _ (mkSt _ _ _) _
 refine qE<|qD 238 239<|aw_e 477 4 1<|qY 954 955 (decide (((k : Nat) : Int) < ((ps.length : Nat) : Int))) (fun h1 => ?_) (fun h1 => ?_)
 ·have h1p : ((((k : Nat) : Int) < ((ps.length : Nat) : Int))) := pB h1
  refine qH<|qD 478 479<|qM 1 957<|aw_d 1915 (
   .a 2 1 <| .p (iX 24 16 17 0 0 ps.length 2 ((k : Nat) : Int) oO oO) <|
   .p (lD 29 18 0 (0 + (((k : Nat) : Int)).toNat * 2) ⟨(ps.flatMap ptc), 29, true, 2⟩ (.agg #[.int .i64 ((ps.getD k (0, 0)).1), .int .i64 ((ps.getD k (0, 0)).2)]) (qL (j := k) kK kK oO oO)) <|
   .a 2 1 <| .p (qJ ((k - 1 : Nat) : Int) ((show (IntKind.wrap .i64 (((k : Nat) : Int) - 1)) = ((k - 1 : Nat) : Int) from ((wrap_i64 oO oO).trans oO))) .i64) <|
   .p (iX 24 20 22 0 0 ps.length 2 ((k - 1 : Nat) : Int) oO oO) <|
   .p (lD 29 23 0 (0 + (((k - 1 : Nat) : Int)).toNat * 2) ⟨(ps.flatMap ptc), 29, true, 2⟩ (.agg #[.int .i64 ((ps.getD (k - 1) (0, 0)).1), .int .i64 ((ps.getD (k - 1) (0, 0)).2)]) (qL (j := (k - 1)) kK kK oO oO)) <|
   .p (qV ((((ps.getD k (0, 0)).1) == ((ps.getD (k - 1) (0, 0)).1)) && ((((ps.getD k (0, 0)).2) == ((ps.getD (k - 1) (0, 0)).2)) && true)) (rfl)) <| .nil _ _) ?_
  refine qY 3830 3831 ((((ps.getD k (0, 0)).1) == ((ps.getD (k - 1) (0, 0)).1)) && ((((ps.getD k (0, 0)).2) == ((ps.getD (k - 1) (0, 0)).2)) && true)) (fun h2 => ?_) (fun h2 => ?_)
  ·refine aw_p 7661 (
    .a 2 1 <|
    .p (jT (v' := .slice (some ⟨0, (0 + k * 2), none⟩) (ps.length - k) 0) (jN (t := 24) (x := .tmp 26) (lo := some (.tmp 27)) (hi := none) (k := 0) (off := 0) (n := ps.length) (c := 0) (z := 2) (l := ((k : Nat) : Int)) (h := ((ps.length : Nat) : Int)) (m := (ps.length - k)) (b := ⟨(ps.flatMap ptc), 29, true, 2⟩) kK kK kK kK kK kK kK kK oO oO oO oO) kK) <|
    .e 1 1) ?_
   refine qD 15322 15323<|aw_e 30645 1 1<|qM 2 61291<|q6 122583<|al_w _ _ (jS (fun i : List (Int × Int) × Nat × Nat => (fun (cur : List (Int × Int)) (m : Nat) (j : Nat) => mkSt 1 [(0, .slice (some ⟨0, 0, none⟩) ps.length 0), (2, .slice none 0 0), (3, .int .i64 ((m : Nat) : Int)), (4, .slice (some ⟨0, (0 + k * 2), none⟩) (ps.length - k) 0), (5, .int .i64 ((j : Nat) : Int))] [(0, ⟨(cur.flatMap ptc), 29, true, 2⟩)]) i.1 i.2.1 i.2.2) (fun i : List (Int × Int) × Nat × Nat => (fun (cur : List (Int × Int)) (m : Nat) (j : Nat) => (Sp.Cpt ps cur m (k + j)) ∧ (1 ≤ j ∧ k + j ≤ ps.length)) i.1 i.2.1 i.2.2) (fun i : List (Int × Int) × Nat × Nat => (fun (cur : List (Int × Int)) (m : Nat) (j : Nat) => ps.length - j) i.1 i.2.1 i.2.2) (fun i hi2 ih2 => ?_) (ps, k, 1) (show (Sp.Cpt ps ps k (k + 1)) ∧ (1 ≤ 1 ∧ k + 1 ≤ ps.length) from ⟨by (exact Sp.cpt_start hk.1 oO hi ((Sp.nW _ _).1 aA)), by omega⟩)) (hc := z15)
   obtain ⟨cur, m, j⟩ := i
   have hi2' : (Sp.Cpt ps cur m (k + j)) ∧ (1 ≤ j ∧ k + j ≤ ps.length) := hi2
   obtain ⟨hc, hj⟩ := hi2'
   show AL _ _ _ (mkSt _ _ _) _
   have hcl := hc.len; have hlt := hc.lt; have hle := hc.le
   refine qE<|qD 245166 245167<|aw_e 490333 4 1<|qY 980666 980667 (decide (((j : Nat) : Int) < (((ps.length - k) : Nat) : Int))) (fun h3 => ?_) (fun h3 => ?_)
   ·have h3p : ((((j : Nat) : Int) < (((ps.length - k) : Nat) : Int))) := pB h3
    refine qH<|qD 490334 490335<|qM 3 980669<|aw_d 1961339 (
     .a 2 1 <| .p (iX 24 35 36 0 (0 + k * 2) (ps.length - k) 2 ((j : Nat) : Int) oO oO) <|
     .p (lD 29 37 0 ((0 + k * 2) + (((j : Nat) : Int)).toNat * 2) ⟨(cur.flatMap ptc), 29, true, 2⟩ (.agg #[.int .i64 ((cur.getD (k + j) (0, 0)).1), .int .i64 ((cur.getD (k + j) (0, 0)).2)]) (qL (j := (k + j)) kK kK oO oO)) <|
     .a 2 1 <| .p (qJ ((j - 1 : Nat) : Int) ((show (IntKind.wrap .i64 (((j : Nat) : Int) - 1)) = ((j - 1 : Nat) : Int) from ((wrap_i64 oO oO).trans oO))) .i64) <|
     .p (iX 24 39 41 0 (0 + k * 2) (ps.length - k) 2 ((j - 1 : Nat) : Int) oO oO) <|
     .p (lD 29 42 0 ((0 + k * 2) + (((j - 1 : Nat) : Int)).toNat * 2) ⟨(cur.flatMap ptc), 29, true, 2⟩ (.agg #[.int .i64 ((cur.getD (k + (j - 1)) (0, 0)).1), .int .i64 ((cur.getD (k + (j - 1)) (0, 0)).2)]) (qL (j := (k + (j - 1))) kK kK oO oO)) <|
     .p (qV (!((((cur.getD (k + j) (0, 0)).1) == ((cur.getD (k + (j - 1)) (0, 0)).1)) && ((((cur.getD (k + j) (0, 0)).2) == ((cur.getD (k + (j - 1)) (0, 0)).2)) && true))) (rfl)) <| .nil _ _) ?_
    refine qY 3922678 3922679 (!((((cur.getD (k + j) (0, 0)).1) == ((cur.getD (k + (j - 1)) (0, 0)).1)) && ((((cur.getD (k + j) (0, 0)).2) == ((cur.getD (k + (j - 1)) (0, 0)).2)) && true))) (fun h4 => ?_) (fun h4 => ?_)
    ·refine aw_p 7845357 (
      .a 4 1 <| .p (iX 24 47 48 0 (0 + k * 2) (ps.length - k) 2 ((j : Nat) : Int) oO oO) <|
      .p (lD 29 49 0 ((0 + k * 2) + (((j : Nat) : Int)).toNat * 2) ⟨(cur.flatMap ptc), 29, true, 2⟩ (.agg #[.int .i64 ((cur.getD (k + j) (0, 0)).1), .int .i64 ((cur.getD (k + j) (0, 0)).2)]) (qL (j := (k + j)) kK kK oO oO)) <|
      .p (iX 24 45 46 0 0 ps.length 2 ((m : Nat) : Int) oO oO) <|
      .p (j4 (t := 29) (x := .tmp 51) (y := .tmp 50) (k := 0) (off := (0 + (((m : Nat) : Int)).toNat * 2)) (b := ⟨(cur.flatMap ptc), 29, true, 2⟩) (v := .agg #[.int .i64 ((cur.getD (k + j) (0, 0)).1), .int .i64 ((cur.getD (k + j) (0, 0)).2)]) (cells := ((cur.set m (((cur.getD (k + j) (0, 0)).1), ((cur.getD (k + j) (0, 0)).2))).flatMap ptc)) kK kK kK kK kK kK kK (Nat.ble_eq_true_of_le (by show _ + 2 ≤ (cur.flatMap ptc).length; rw [pairs_length]; omega)) (mP (j := m) oO oO)) <| .nil _ _) ?_
     refine qW (
      .a 1 1 <| .p (qJ (((m : Nat) : Int) + 1) (wrap_i64 oO oO) .i64) <| .e 1 1) ?_
     refine qW (
      .a 1 1 <| .p (qJ (((j : Nat) : Int) + 1) (wrap_i64 oO oO) .i64) <| .e 1 1) ?_
     exact al_w _ _ (ih2 ((cur.set m (((cur.getD (k + j) (0, 0)).1), ((cur.getD (k + j) (0, 0)).2))), (m + 1), (j + 1)) (show (Sp.Cpt ps (cur.set m (((cur.getD (k + j) (0, 0)).1), ((cur.getD (k + j) (0, 0)).2))) (m + 1) (k + (j + 1))) ∧ (1 ≤ (j + 1) ∧ k + (j + 1) ≤ ps.length) from ⟨by (first | exact Sp.qC1 hj.1 hc oO (Sp.eqb_ne (Sp.nb_t aA)) | exact Sp.lH hj.1 hc oO ((Sp.nW _ _).1 (Sp.nb_f aA))), by omega⟩) (show ps.length - (j + 1) < ps.length - j from by omega)) (hc := z15)
    refine qH<|qW (
     .a 1 1 <| .p (qJ (((j : Nat) : Int) + 1) (wrap_i64 oO oO) .i64) <| .e 1 1) ?_
    exact al_w _ _ (ih2 (cur, m, (j + 1)) (show (Sp.Cpt ps cur m (k + (j + 1))) ∧ (1 ≤ (j + 1) ∧ k + (j + 1) ≤ ps.length) from ⟨by (first | exact Sp.qC1 hj.1 hc oO (Sp.eqb_ne (Sp.nb_t aA)) | exact Sp.lH hj.1 hc oO ((Sp.nW _ _).1 (Sp.nb_f aA))), by omega⟩) (show ps.length - (j + 1) < ps.length - j from by omega)) (hc := z15)
   have h3p : ¬ ((((j : Nat) : Int) < (((ps.length - k) : Nat) : Int))) := pB h3
   obtain ⟨he, hel⟩ := Sp.cpt_end hc oO oO
   refine q5 2<|qG<|aw_p 30647 (
    .a 2 1 <|
    .p (jT (v' := .slice (some ⟨0, (0 + m * 2), none⟩) (ps.length - m) 0) (jN (t := 24) (x := .tmp 54) (lo := some (.tmp 55)) (hi := none) (k := 0) (off := 0) (n := ps.length) (c := 0) (z := 2) (l := ((m : Nat) : Int)) (h := ((ps.length : Nat) : Int)) (m := (ps.length - m)) (b := ⟨(cur.flatMap ptc), 29, true, 2⟩) kK kK kK kK kK kK kK kK oO oO oO oO) kK) <|
    .p (qEK (k := 0) (off := (0 + m * 2)) (n := (ps.length - m)) (e := 29) (z := 2) (b := ⟨(cur.flatMap ptc), 29, true, 2⟩) (zv := .agg #[.int .i64 0, .int .i64 0]) ((cur.take m).flatMap ptc) kK kK rfl kK kK oO (qDB (k := m) oO) (by show _ ≤ (cur.flatMap ptc).length; rw [pairs_length]; omega)) <| .nil _ _) ?_
   refine aw_p 61295 (
    .a 2 1 <|
    .p (jT (v' := .slice (some ⟨0, 0, none⟩) m 0) (jN (t := 24) (x := .tmp 57) (lo := none) (hi := some (.tmp 58)) (k := 0) (off := 0) (n := ps.length) (c := 0) (z := 2) (l := 0) (h := ((m : Nat) : Int)) (m := m) (b := ⟨((cur.take m).flatMap ptc), 29, true, 2⟩) kK kK kK kK kK kK kK kK oO oO oO oO) kK) <|
    .e 1 1) ?_
   refine aw_w [(2, .slice (some ⟨0, 0, none⟩) ((Sp.ddp ps).length) 0)] [(0, ⟨((Sp.ddp ps).flatMap ptc), 29, true, 2⟩)] ?_ (by (try rw [hel]); kernel_rfl) (by (try rw [he]); kernel_rfl) (hc := z15)
   exact qF<|qB [.slice (some ⟨0, 0, none⟩) ((Sp.ddp ps).length) 0] kK
  refine qH<|qW (
   .a 1 1 <| .p (qJ (((k : Nat) : Int) + 1) (wrap_i64 oO oO) .i64) <| .e 1 1) ?_
  exact al_w _ _ (ih1 (k + 1) (show (1 ≤ (k + 1) ∧ (k + 1) ≤ ps.length) ∧ (Sp.ddp (ps.take (k + 1)) = ps.take (k + 1)) from ⟨by omega, by (exact Sp.cmp_go hk.1 oO hi (Sp.eqb_ne aA))⟩) (show ps.length - (k + 1) < ps.length - k from by omega)) (hc := z15)
 have h1p : ¬ ((((k : Nat) : Int) < ((ps.length : Nat) : Int))) := pB h1
 have hkn : k = ps.length := by omega
 have hdd : Sp.ddp ps = ps := (by rw [hkn, List.take_length] at hi; exact hi)
 refine q5 0<|qG<|aw_e 31 2 1<|aw_w [(2, .slice (some ⟨0, 0, none⟩) ((Sp.ddp ps).length) 0)] [(0, ⟨((Sp.ddp ps).flatMap ptc), 29, true, 2⟩)] ?_ (by (try rw [hdd]); kernel_rfl) (by (try rw [hdd]); kernel_rfl) (hc := z15)
 exact qF<|qB [.slice (some ⟨0, 0, none⟩) ((Sp.ddp ps).length) 0] kK
theorem mD (ps : List (Int × Int)) (hz : ps.length ≤ 8796093021952) : AC Try.prog 83 1 [.slice (some ⟨0, 0, none⟩) ps.length 0] [(0, ⟨(ps.flatMap ptc), 29, true, 2⟩)] (.slice (some ⟨0, 0, none⟩) (Sp.ddp ps).length 0) [(0, ⟨((Sp.ddp ps).flatMap ptc), 29, true, 2⟩)] := by
  by_cases h : ps.length < 2
  · exact tD ps hz h
  · exact lJ ps hz (by omega)
open Go Go.Proofs
theorem lK (ps : List (Int × Int))  (hl : Sp.Few 1048576 ps) (hps : 1 ≤ ps.length) (hz : ps.length ≤ 8796093021952) :
    AC Try.prog 84 1 ([.slice none 0 0, .slice (some ⟨0, 0, none⟩) ps.length 0]) [(0, ⟨(ps.flatMap ptc), 29, true, 2⟩)] (.slice (some ⟨1, 0, none⟩) ((Sp.chO ps).length) 0) [(0, ⟨(ps.flatMap ptc), 29, true, 2⟩), (1, ⟨((Sp.chO ps).flatMap ptc), 29, true, 2⟩)] := by
 have hsp := Sp.sG (l := ps) hps; have hsl := Sp.xC ps ps.length; have hnop : Sp.nop.length = 0 := rfl; have hb : Sp.Few 1048576 Sp.nop := (fun i => by simp [Sp.nop])
 refine qK Try.func84 (fun w0 W pin => ?_)
 refine aw_e 3 1 2<|aw_e 7 3 2<|qD 14 15<|aw_e 29 3 2<|qM 0 59<|q6 119<|qE<|aw_p 239 (
  .p (qN true ((show (decide (0 < ((ps.length : Nat) : Int))) = true from decide_eq_true oO))) <| .nil _ _) ?_
 refine qD 478 479<|qR 956<|qH<|qD 958 959<|qM 1 1917<|aw_p 3835 (
  .p (iX 24 10 12 0 0 ps.length 2 0 oO oO) <|
  .p (lD 29 14 0 0 ⟨(ps.flatMap ptc), 29, true, 2⟩ (.agg #[.int .i64 ((ps.getD 0 (0, 0)).1), .int .i64 ((ps.getD 0 (0, 0)).2)]) (qL (j := 0) kK kK oO z27)) <|
  .e 2 2) ?_
 refine qD 7670 7671<|qM 2 15341<|q6 30683<|qE<|qD 61366 61367<|aw_d 122733 (
  .e 22 3) ?_
 refine qP 245467<|q5 2<|qG<|qW (
  .a 3 3 <| .p (jQ 4) <| .e 1 5) ?_
 refine aw_w [(0, .slice (some ⟨4, 0, none⟩) 1 0), (4, .slice none 0 0), (5, .int .i64 0), (7, .pointer (some ⟨2, 0, none⟩)), (10, .slice (some ⟨0, 0, none⟩) ps.length 0), (11, .int .i64 ((ps.length : Nat) : Int)), (12, .int .i64 0), (13, .bool true), (37, .bool false)] [(0, ⟨(ps.flatMap ptc), 29, true, 2⟩), (2, ⟨[.int .i64 ((ps.getD 0 (0, 0)).1), .int .i64 ((ps.getD 0 (0, 0)).2)], 29, true, 2⟩), (4, ⟨[.int .i64 ((ps.getD 0 (0, 0)).1), .int .i64 ((ps.getD 0 (0, 0)).2)], 29, true, 2⟩)] ?_ z32 z32 (hc := z15)
 refine aw_e1 2 5<|al_w _ _ (jS (fun i : Nat => (fun (u : Nat) => mkSt 1 [(0, .slice (some ⟨4, 0, none⟩) (Sp.nop.length + (Sp.stk ps u).length) 0), (4, .slice none 0 0), (5, .int .i64 0), (10, .slice (some ⟨0, 0, none⟩) ps.length 0), (11, .int .i64 ((ps.length : Nat) : Int)), (12, .int .i64 ((u : Nat) : Int))] [(0, ⟨(ps.flatMap ptc), 29, true, 2⟩), (4, ⟨((Sp.nop ++ (Sp.stk ps u).reverse).flatMap ptc), 29, true, 2⟩)]) i) (fun i : Nat => (fun (u : Nat) => (1 ≤ u ∧ u ≤ ps.length)) i) (fun i : Nat => (fun (u : Nat) => ps.length - u) i) (fun i hi1 ih1 => ?_) 1 (show (1 ≤ 1 ∧ 1 ≤ ps.length) from by omega)) (hc := z15)
 obtain ⟨u, hv1⟩ : ∃ z, z = i := ⟨i, rfl⟩; subst hv1
 have hi1' : (1 ≤ u ∧ u ≤ ps.length) := hi1
 have hi : 1 ≤ u ∧ u ≤ ps.length := hi1'
 show AL _ _ _ (mkSt _ _ _) _
 have hsi := Sp.xC ps u
 refine qE<|aw_e 239 1 5<|qD 478 479<|qY 956 957 (decide (((u : Nat) : Int) < ((ps.length : Nat) : Int))) (fun h1 => ?_) (fun h1 => ?_)
 ·have h1p : ((((u : Nat) : Int) < ((ps.length : Nat) : Int))) := pB h1
  refine qH<|qD 958 959<|qM 1 1917<|aw_p 3835 (
   .p (iX 24 10 12 0 0 ps.length 2 ((u : Nat) : Int) oO oO) <|
   .p (lD 29 14 0 (0 + (((u : Nat) : Int)).toNat * 2) ⟨(ps.flatMap ptc), 29, true, 2⟩ (.agg #[.int .i64 ((ps.getD u (0, 0)).1), .int .i64 ((ps.getD u (0, 0)).2)]) (qL (j := u) kK kK oO z27)) <|
   .e 2 5) ?_
  refine qD 7670 7671<|qM 2 15341<|q6 30683<|al_w _ _ (jS (fun i : List (Int × Int) => (fun (c : List (Int × Int)) => mkSt 1 [(0, .slice (some ⟨4, 0, none⟩) (Sp.nop.length + c.length) 0), (4, .slice none 0 0), (5, .int .i64 0), (7, .pointer (some ⟨5, 0, none⟩)), (10, .slice (some ⟨0, 0, none⟩) ps.length 0), (11, .int .i64 ((ps.length : Nat) : Int)), (12, .int .i64 ((u : Nat) : Int))] [(0, ⟨(ps.flatMap ptc), 29, true, 2⟩), (4, ⟨((Sp.nop ++ c.reverse).flatMap ptc), 29, true, 2⟩), (5, ⟨[.int .i64 ((ps.getD u (0, 0)).1), .int .i64 ((ps.getD u (0, 0)).2)], 29, true, 2⟩)]) i) (fun i : List (Int × Int) => (fun (c : List (Int × Int)) => (Sp.popC (ps.getD u (0, 0)) c = Sp.popC (ps.getD u (0, 0)) (Sp.stk ps u)) ∧ (∀ p ∈ c, p ∈ ps) ∧ (c.length ≤ (Sp.stk ps u).length)) i) (fun i : List (Int × Int) => (fun (c : List (Int × Int)) => c.length) i) (fun i hi2 ih2 => ?_) (Sp.stk ps u) (show (Sp.popC (ps.getD u (0, 0)) (Sp.stk ps u) = Sp.popC (ps.getD u (0, 0)) (Sp.stk ps u)) ∧ (∀ p ∈ (Sp.stk ps u), p ∈ ps) ∧ ((Sp.stk ps u).length ≤ (Sp.stk ps u).length) from ⟨by rfl, by exact fun p hp => Sp.xT oO hp, by exact Nat.le_refl _⟩)) (hc := z15)
  obtain ⟨c, hv2⟩ : ∃ z, z = i := ⟨i, rfl⟩; subst hv2
  have hi2' : (Sp.popC (ps.getD u (0, 0)) c = Sp.popC (ps.getD u (0, 0)) (Sp.stk ps u)) ∧ (∀ p ∈ c, p ∈ ps) ∧ (c.length ≤ (Sp.stk ps u).length) := hi2
  obtain ⟨hpc, hcl, hcb⟩ := hi2'
  show AL _ _ _ (mkSt _ _ _) _
  have hfc := Sp.few_stk dD hb hl hcl; have hfq := hl u
  refine qE<|qD 61366 61367 ?_
  rcases Bool.eq_false_or_eq_true (decide ((((Sp.nop.length + c.length) : Nat) : Int) > 1)) with h2 | h2
  ·have h2p : (((((Sp.nop.length + c.length) : Nat) : Int) > 1)) := pB h2
   have hc2 : 2 ≤ c.length := by omega
   have fa := hfc ((Sp.nop.length + c.length) - 2); have fb := hfc ((Sp.nop.length + c.length) - 1)
   refine aw_d 122733 (
    .a 4 6 <| .p (qN true (h2)) <| .a 4 6 <| .p (qJ (((Sp.nop.length + c.length) - 2 : Nat) : Int) ((show (IntKind.wrap .i64 ((((Sp.nop.length + c.length) : Nat) : Int) - 2)) = (((Sp.nop.length + c.length) - 2 : Nat) : Int) from ((wrap_i64 oO oO).trans oO))) .i64) <|
    .p (iX 24 22 25 4 0 (Sp.nop.length + c.length) 2 (((Sp.nop.length + c.length) - 2 : Nat) : Int) oO oO) <|
    .p (lD 29 26 4 (0 + ((((Sp.nop.length + c.length) - 2 : Nat) : Int)).toNat * 2) ⟨((Sp.nop ++ c.reverse).flatMap ptc), 29, true, 2⟩ (.agg #[.int .i64 (((Sp.nop ++ c.reverse).getD ((Sp.nop.length + c.length) - 2) (0, 0)).1), .int .i64 (((Sp.nop ++ c.reverse).getD ((Sp.nop.length + c.length) - 2) (0, 0)).2)]) (qL (j := ((Sp.nop.length + c.length) - 2)) kK kK oO z27)) <|
    .a 3 6 <| .p (qJ (((Sp.nop.length + c.length) - 1 : Nat) : Int) ((show (IntKind.wrap .i64 ((((Sp.nop.length + c.length) : Nat) : Int) - 1)) = (((Sp.nop.length + c.length) - 1 : Nat) : Int) from ((wrap_i64 oO oO).trans oO))) .i64) <|
    .p (iX 24 28 31 4 0 (Sp.nop.length + c.length) 2 (((Sp.nop.length + c.length) - 1 : Nat) : Int) oO oO) <|
    .p (lD 29 32 4 (0 + ((((Sp.nop.length + c.length) - 1 : Nat) : Int)).toNat * 2) ⟨((Sp.nop ++ c.reverse).flatMap ptc), 29, true, 2⟩ (.agg #[.int .i64 (((Sp.nop ++ c.reverse).getD ((Sp.nop.length + c.length) - 1) (0, 0)).1), .int .i64 (((Sp.nop ++ c.reverse).getD ((Sp.nop.length + c.length) - 1) (0, 0)).2)]) (qL (j := ((Sp.nop.length + c.length) - 1)) kK kK oO z27)) <|
    .a 1 6 <|
    .p (qC (vY (((Sp.nop ++ c.reverse).getD ((Sp.nop.length + c.length) - 2) (0, 0)).1) (((Sp.nop ++ c.reverse).getD ((Sp.nop.length + c.length) - 2) (0, 0)).2) (((Sp.nop ++ c.reverse).getD ((Sp.nop.length + c.length) - 1) (0, 0)).1) (((Sp.nop ++ c.reverse).getD ((Sp.nop.length + c.length) - 1) (0, 0)).2) ((ps.getD u (0, 0)).1) ((ps.getD u (0, 0)).2) oO oO oO oO oO oO oO oO oO oO oO oO)) <|
    .p (qN (Sp.popB (Sp.nop ++ c.reverse) (Sp.nop.length + c.length) (ps.getD u (0, 0)).1 (ps.getD u (0, 0)).2) (Sp.qA9 _ _ _ _)) <| .e 1 6) ?_
   refine qY 245466 245467 (Sp.popB (Sp.nop ++ c.reverse) (Sp.nop.length + c.length) (ps.getD u (0, 0)).1 (ps.getD u (0, 0)).2) (fun h3 => ?_) (fun h3 => ?_)
   ·refine qH<|qM 3 122735<|qW (
     .a 3 6 <| .p (qJ (((Sp.nop.length + c.length) - 1 : Nat) : Int) ((show (IntKind.wrap .i64 ((((Sp.nop.length + c.length) : Nat) : Int) - 1)) = (((Sp.nop.length + c.length) - 1 : Nat) : Int) from ((wrap_i64 oO oO).trans oO))) .i64) <|
     .p (jT (v' := .slice (some ⟨4, 0, none⟩) ((Sp.nop.length + c.length) - 1) 0) (jN (t := 24) (x := .tmp 38) (lo := none) (hi := some (.tmp 41)) (k := 4) (off := 0) (n := (Sp.nop.length + c.length)) (c := 0) (z := 2) (l := 0) (h := (((Sp.nop.length + c.length) - 1 : Nat) : Int)) (m := ((Sp.nop.length + c.length) - 1)) (b := ⟨((Sp.nop ++ c.reverse).flatMap ptc), 29, true, 2⟩) kK kK kK kK kK kK kK kK oO oO oO oO) kK) <|
     .e 1 6) ?_
    refine l9 4 ⟨((Sp.nop ++ c.reverse).flatMap ptc), 29, true, 2⟩ ((Sp.nop ++ c.tail.reverse).flatMap ptc) (2 * ((Sp.nop.length + c.length) - 1)) ?_ (Sp.dE (bs := Sp.nop) oO)
    refine al_w [(0, .slice (some ⟨4, 0, none⟩) (Sp.nop.length + c.tail.length) 0), (4, .slice none 0 0), (5, .int .i64 0), (7, .pointer (some ⟨5, 0, none⟩)), (10, .slice (some ⟨0, 0, none⟩) ps.length 0), (11, .int .i64 ((ps.length : Nat) : Int)), (12, .int .i64 ((u : Nat) : Int))] [(0, ⟨(ps.flatMap ptc), 29, true, 2⟩), (4, ⟨((Sp.nop ++ c.tail.reverse).flatMap ptc), 29, true, 2⟩), (5, ⟨[.int .i64 ((ps.getD u (0, 0)).1), .int .i64 ((ps.getD u (0, 0)).2)], 29, true, 2⟩)] ?_ (by (rw [show (Sp.nop.length + c.tail.length) = (Sp.nop.length + c.length) - 1 from (by rw [List.length_tail]; omega)]); kernel_rfl) kK (hc := z15)
    exact al_w _ _ (ih2 c.tail (show (Sp.popC (ps.getD u (0, 0)) c.tail = Sp.popC (ps.getD u (0, 0)) (Sp.stk ps u)) ∧ (∀ p ∈ c.tail, p ∈ ps) ∧ (c.tail.length ≤ (Sp.stk ps u).length) from ⟨by (rw [← hpc]; exact Sp.qA6 (bs := Sp.nop) hc2 aA), by exact fun p hp => hcl p (List.mem_of_mem_tail hp), by (rw [List.length_tail]; omega)⟩) (show c.tail.length < c.length from by (rw [List.length_tail]; omega))) (hc := z15)
   have hst := Sp.popC_no (bs := Sp.nop) (q := (ps.getD u (0, 0))) hc2 h3
   refine q5 2<|qG<|qW (
    .a 3 6 <|
    .p (j2 7 29 2 16 4 (Sp.nop.length + c.length) 6 1 ⟨((Sp.nop ++ c.reverse).flatMap ptc), 29, true, 2⟩ ⟨[.int .i64 ((ps.getD u (0, 0)).1), .int .i64 ((ps.getD u (0, 0)).2)], 29, true, 2⟩ ((Sp.nop ++ (Sp.stk ps (u + 1)).reverse).flatMap ptc) kK kK kK kK kK z17 oO oO (Sp.dA hpc hst)) <|
    .e 1 8) ?_
   refine aw_w [(0, .slice (some ⟨7, 0, none⟩) (Sp.nop.length + (Sp.stk ps (u + 1)).length) 0), (4, .slice none 0 0), (5, .int .i64 0), (7, .pointer (some ⟨5, 0, none⟩)), (10, .slice (some ⟨0, 0, none⟩) ps.length 0), (11, .int .i64 ((ps.length : Nat) : Int)), (12, .int .i64 ((u : Nat) : Int)), (37, .bool (Sp.popB (Sp.nop ++ c.reverse) (Sp.nop.length + c.length) (ps.getD u (0, 0)).1 (ps.getD u (0, 0)).2))] [(0, ⟨(ps.flatMap ptc), 29, true, 2⟩), (5, ⟨[.int .i64 ((ps.getD u (0, 0)).1), .int .i64 ((ps.getD u (0, 0)).2)], 29, true, 2⟩), (7, ⟨((Sp.nop ++ (Sp.stk ps (u + 1)).reverse).flatMap ptc), 29, true, 2⟩)] ?_ z32 z32 (hc := z15)
   refine qW (
    .p (qJ (((u : Nat) : Int) + 1) (wrap_i64 oO oO) .i64) <| .e 1 8) ?_
   refine al_r [(4, 7)] [(0, .slice (some ⟨7, 0, none⟩) (Sp.nop.length + (Sp.stk ps (u + 1)).length) 0), (4, .slice none 0 0), (5, .int .i64 0), (10, .slice (some ⟨0, 0, none⟩) ps.length 0), (11, .int .i64 ((ps.length : Nat) : Int)), (12, .int .i64 (((u + 1) : Nat) : Int))] [(0, ⟨(ps.flatMap ptc), 29, true, 2⟩), (7, ⟨((Sp.nop ++ (Sp.stk ps (u + 1)).reverse).flatMap ptc), 29, true, 2⟩)] [(0, .slice (some ⟨4, 0, none⟩) (Sp.nop.length + (Sp.stk ps (u + 1)).length) 0), (4, .slice none 0 0), (5, .int .i64 0), (10, .slice (some ⟨0, 0, none⟩) ps.length 0), (11, .int .i64 ((ps.length : Nat) : Int)), (12, .int .i64 (((u + 1) : Nat) : Int))] [(0, ⟨(ps.flatMap ptc), 29, true, 2⟩), (4, ⟨((Sp.nop ++ (Sp.stk ps (u + 1)).reverse).flatMap ptc), 29, true, 2⟩)] ?_ ⟨rfl, (.slice _ _ _ _ _ rfl), rfl, (.flatB kK), rfl, (.flatB kK), rfl, (.slice _ _ _ _ _ rfl), rfl, (.flatB kK), rfl, (.flatB kK), trivial⟩ ⟨rfl, ⟨rfl, rfl, rfl, (.flats (qA _))⟩, rfl, ⟨rfl, rfl, rfl, (.flats (qA _))⟩, trivial⟩
   exact ih1 (u + 1) (show (1 ≤ (u + 1) ∧ (u + 1) ≤ ps.length) from by omega) (show ps.length - (u + 1) < ps.length - u from by omega)
  have h2p : ¬ (((((Sp.nop.length + c.length) : Nat) : Int) > 1)) := pB h2
  have hst := Sp.pX (q := (ps.getD u (0, 0))) (c := c) oO
  refine aw_d 122733 (
   .a 4 6 <| .p (qN false (h2)) <| .e 17 6) ?_
  refine qP 245467<|q5 2<|qG<|qW (
   .a 3 6 <|
   .p (j2 7 29 2 16 4 (Sp.nop.length + c.length) 6 1 ⟨((Sp.nop ++ c.reverse).flatMap ptc), 29, true, 2⟩ ⟨[.int .i64 ((ps.getD u (0, 0)).1), .int .i64 ((ps.getD u (0, 0)).2)], 29, true, 2⟩ ((Sp.nop ++ (Sp.stk ps (u + 1)).reverse).flatMap ptc) kK kK kK kK kK z17 oO oO (Sp.dA hpc hst)) <|
   .e 1 8) ?_
  refine aw_w [(0, .slice (some ⟨7, 0, none⟩) (Sp.nop.length + (Sp.stk ps (u + 1)).length) 0), (4, .slice none 0 0), (5, .int .i64 0), (7, .pointer (some ⟨5, 0, none⟩)), (10, .slice (some ⟨0, 0, none⟩) ps.length 0), (11, .int .i64 ((ps.length : Nat) : Int)), (12, .int .i64 ((u : Nat) : Int)), (37, .bool false)] [(0, ⟨(ps.flatMap ptc), 29, true, 2⟩), (5, ⟨[.int .i64 ((ps.getD u (0, 0)).1), .int .i64 ((ps.getD u (0, 0)).2)], 29, true, 2⟩), (7, ⟨((Sp.nop ++ (Sp.stk ps (u + 1)).reverse).flatMap ptc), 29, true, 2⟩)] ?_ z32 z32 (hc := z15)
  refine qW (
   .p (qJ (((u : Nat) : Int) + 1) (wrap_i64 oO oO) .i64) <| .e 1 8) ?_
  refine al_r [(4, 7)] [(0, .slice (some ⟨7, 0, none⟩) (Sp.nop.length + (Sp.stk ps (u + 1)).length) 0), (4, .slice none 0 0), (5, .int .i64 0), (10, .slice (some ⟨0, 0, none⟩) ps.length 0), (11, .int .i64 ((ps.length : Nat) : Int)), (12, .int .i64 (((u + 1) : Nat) : Int))] [(0, ⟨(ps.flatMap ptc), 29, true, 2⟩), (7, ⟨((Sp.nop ++ (Sp.stk ps (u + 1)).reverse).flatMap ptc), 29, true, 2⟩)] [(0, .slice (some ⟨4, 0, none⟩) (Sp.nop.length + (Sp.stk ps (u + 1)).length) 0), (4, .slice none 0 0), (5, .int .i64 0), (10, .slice (some ⟨0, 0, none⟩) ps.length 0), (11, .int .i64 ((ps.length : Nat) : Int)), (12, .int .i64 (((u + 1) : Nat) : Int))] [(0, ⟨(ps.flatMap ptc), 29, true, 2⟩), (4, ⟨((Sp.nop ++ (Sp.stk ps (u + 1)).reverse).flatMap ptc), 29, true, 2⟩)] ?_ ⟨rfl, (.slice _ _ _ _ _ rfl), rfl, (.flatB kK), rfl, (.flatB kK), rfl, (.slice _ _ _ _ _ rfl), rfl, (.flatB kK), rfl, (.flatB kK), trivial⟩ ⟨rfl, ⟨rfl, rfl, rfl, (.flats (qA _))⟩, rfl, ⟨rfl, rfl, rfl, (.flats (qA _))⟩, trivial⟩
  exact ih1 (u + 1) (show (1 ≤ (u + 1) ∧ (u + 1) ≤ ps.length) from by omega) (show ps.length - (u + 1) < ps.length - u from by omega)
 have h1p : ¬ ((((u : Nat) : Int) < ((ps.length : Nat) : Int))) := pB h1
 have hin : u = ps.length := by omega
 refine q5 0<|qG<|aw_w [(0, .slice (some ⟨4, 0, none⟩) (Sp.nop.length + (Sp.stk ps ps.length).length) 0), (4, .slice none 0 0)] [(0, ⟨(ps.flatMap ptc), 29, true, 2⟩), (4, ⟨((Sp.nop ++ (Sp.stk ps ps.length).reverse).flatMap ptc), 29, true, 2⟩)] ?_ (by subst hin; kernel_rfl) (by subst hin; kernel_rfl) (hc := z15)
 refine aw_p 31 (
  .a 3 5 <|
  .p (qJ (((Sp.nop.length + (Sp.stk ps ps.length).length) - 1 : Nat) : Int) ((show (IntKind.wrap .i64 (((Sp.nop.length + (Sp.stk ps ps.length).length : Nat) : Int) - 1)) = (((Sp.nop.length + (Sp.stk ps ps.length).length) - 1 : Nat) : Int) from ((wrap_i64 oO oO).trans oO))) .i64) <|
  .p (jT (v' := .slice (some ⟨4, 0, none⟩) ((Sp.nop.length + (Sp.stk ps ps.length).length) - 1) 0) (jN (t := 24) (x := .tmp 48) (lo := none) (hi := some (.tmp 51)) (k := 4) (off := 0) (n := (Sp.nop.length + (Sp.stk ps ps.length).length)) (c := 0) (z := 2) (l := 0) (h := (((Sp.nop.length + (Sp.stk ps ps.length).length) - 1 : Nat) : Int)) (m := ((Sp.nop.length + (Sp.stk ps ps.length).length) - 1)) (b := ⟨((Sp.nop ++ (Sp.stk ps ps.length).reverse).flatMap ptc), 29, true, 2⟩) kK kK kK kK kK kK kK kK oO oO oO oO) kK) <|
  .e 1 5) ?_
 refine lR 4 ⟨((Sp.nop ++ (Sp.stk ps ps.length).reverse).flatMap ptc), 29, true, 2⟩ ((Sp.chO ps).flatMap ptc) (2 * ((Sp.nop.length + (Sp.stk ps ps.length).length) - 1)) ?_ (Sp.dE (bs := Sp.nop) hsp)
 refine aw_w [(4, .slice (some ⟨4, 0, none⟩) ((Sp.chO ps).length) 0)] [(0, ⟨(ps.flatMap ptc), 29, true, 2⟩), (4, ⟨((Sp.chO ps).flatMap ptc), 29, true, 2⟩)] ?_ (by (rw [show (Sp.chO ps).length = (Sp.nop.length + (Sp.stk ps ps.length).length) - 1 from Sp.qC4 (bs := Sp.nop) hps]); kernel_rfl) kK (hc := z15)
 refine aw_r [(1, 4)] [(4, .slice (some ⟨4, 0, none⟩) ((Sp.chO ps).length) 0)] [(0, ⟨(ps.flatMap ptc), 29, true, 2⟩), (4, ⟨((Sp.chO ps).flatMap ptc), 29, true, 2⟩)] [(4, .slice (some ⟨1, 0, none⟩) ((Sp.chO ps).length) 0)] [(0, ⟨(ps.flatMap ptc), 29, true, 2⟩), (1, ⟨((Sp.chO ps).flatMap ptc), 29, true, 2⟩)] ?_ ⟨rfl, (.slice _ _ _ _ _ rfl), trivial⟩ ⟨rfl, ⟨rfl, rfl, rfl, (.flats (qA _))⟩, rfl, ⟨rfl, rfl, rfl, (.flats (qA _))⟩, trivial⟩
 exact qF<|qB [.slice (some ⟨1, 0, none⟩) ((Sp.chO ps).length) 0] kK
theorem lL (bs ps : List (Int × Int)) (hb : Sp.Few 1048576 bs) (hl : Sp.Few 1048576 ps) (hps : 1 ≤ ps.length) (hz : ∀ i, i ≤ ps.length → bs.length + (Sp.stk ps i).length ≤ 8796093022000) (hz2 : ps.length ≤ 8796093021952) :
    AC Try.prog 84 2 ([.slice (some ⟨0, 0, none⟩) bs.length 0, .slice (some ⟨1, 0, none⟩) ps.length 0]) [(0, ⟨(bs.flatMap ptc), 29, true, 2⟩), (1, ⟨(ps.flatMap ptc), 29, true, 2⟩)] (.slice (some ⟨2, 0, none⟩) ((bs ++ Sp.chO ps).length) 0) [(1, ⟨(ps.flatMap ptc), 29, true, 2⟩), (2, ⟨((bs ++ Sp.chO ps).flatMap ptc), 29, true, 2⟩)] := by
 have hsp := Sp.sG (l := ps) hps; have hsl := Sp.xC ps ps.length; have hz0 := hz 0 oO; have hzn := hz ps.length (Nat.le_refl _)
 refine qK Try.func84 (fun w0 W pin => ?_)
 refine aw_e 3 1 3<|aw_e 7 3 3<|qD 14 15<|aw_e 29 3 3<|qM 0 59<|q6 119<|qE<|aw_p 239 (
  .p (qN true ((show (decide (0 < ((ps.length : Nat) : Int))) = true from decide_eq_true oO))) <| .nil _ _) ?_
 refine qD 478 479<|qR 956<|qH<|qD 958 959<|qM 1 1917<|aw_p 3835 (
  .p (iX 24 10 12 1 0 ps.length 2 0 oO oO) <|
  .p (lD 29 14 1 0 ⟨(ps.flatMap ptc), 29, true, 2⟩ (.agg #[.int .i64 ((ps.getD 0 (0, 0)).1), .int .i64 ((ps.getD 0 (0, 0)).2)]) (qL (j := 0) kK kK oO z27)) <|
  .e 2 3) ?_
 refine qD 7670 7671<|qM 2 15341<|q6 30683<|qE<|qD 61366 61367<|aw_d 122733 (
  .a 3 4 <| .p (qJ (((bs.length : Nat) : Int) + 1) (wrap_i64 oO oO) .i64) <| .p (qN false ((show (decide (((bs.length : Nat) : Int) > (((bs.length : Nat) : Int) + 1))) = false from decide_eq_false oO))) <| .e 17 4) ?_
 refine qP 245467<|q5 2<|qG<|qW (
  .a 3 4 <|
  .p (j2 5 29 2 16 0 bs.length 4 1 ⟨(bs.flatMap ptc), 29, true, 2⟩ ⟨[.int .i64 ((ps.getD 0 (0, 0)).1), .int .i64 ((ps.getD 0 (0, 0)).2)], 29, true, 2⟩ ((bs ++ [(((ps.getD 0 (0, 0)).1), ((ps.getD 0 (0, 0)).2))]).flatMap ptc) kK kK kK kK kK (by rw [pairs_length]; omega) oO oO (by simp [ptc])) <|
  .e 1 6) ?_
 refine aw_w [(0, .slice (some ⟨5, 0, none⟩) (bs.length + 1) 0), (4, .slice none 0 0), (5, .int .i64 ((bs.length : Nat) : Int)), (7, .pointer (some ⟨3, 0, none⟩)), (10, .slice (some ⟨1, 0, none⟩) ps.length 0), (11, .int .i64 ((ps.length : Nat) : Int)), (12, .int .i64 0), (13, .bool true), (37, .bool false)] [(1, ⟨(ps.flatMap ptc), 29, true, 2⟩), (3, ⟨[.int .i64 ((ps.getD 0 (0, 0)).1), .int .i64 ((ps.getD 0 (0, 0)).2)], 29, true, 2⟩), (5, ⟨((bs ++ [(((ps.getD 0 (0, 0)).1), ((ps.getD 0 (0, 0)).2))]).flatMap ptc), 29, true, 2⟩)] ?_ z32 z32 (hc := z15)
 refine aw_e1 2 6<|al_w _ _ (jS (fun i : Nat => (fun (u : Nat) => mkSt 2 [(0, .slice (some ⟨5, 0, none⟩) (bs.length + (Sp.stk ps u).length) 0), (4, .slice none 0 0), (5, .int .i64 ((bs.length : Nat) : Int)), (10, .slice (some ⟨1, 0, none⟩) ps.length 0), (11, .int .i64 ((ps.length : Nat) : Int)), (12, .int .i64 ((u : Nat) : Int))] [(1, ⟨(ps.flatMap ptc), 29, true, 2⟩), (5, ⟨((bs ++ (Sp.stk ps u).reverse).flatMap ptc), 29, true, 2⟩)]) i) (fun i : Nat => (fun (u : Nat) => (1 ≤ u ∧ u ≤ ps.length)) i) (fun i : Nat => (fun (u : Nat) => ps.length - u) i) (fun i hi1 ih1 => ?_) 1 (show (1 ≤ 1 ∧ 1 ≤ ps.length) from by omega)) (hc := z15)
 obtain ⟨u, hv1⟩ : ∃ z, z = i := ⟨i, rfl⟩; subst hv1
 have hi1' : (1 ≤ u ∧ u ≤ ps.length) := hi1
 have hi : 1 ≤ u ∧ u ≤ ps.length := hi1'
 show AL _ _ _ (mkSt _ _ _) _
 have hsi := Sp.xC ps u
 have hzu := hz u oO
 refine qE<|aw_e 239 1 6<|qD 478 479<|qY 956 957 (decide (((u : Nat) : Int) < ((ps.length : Nat) : Int))) (fun h1 => ?_) (fun h1 => ?_)
 ·have h1p : ((((u : Nat) : Int) < ((ps.length : Nat) : Int))) := pB h1
  refine qH<|qD 958 959<|qM 1 1917<|aw_p 3835 (
   .p (iX 24 10 12 1 0 ps.length 2 ((u : Nat) : Int) oO oO) <|
   .p (lD 29 14 1 (0 + (((u : Nat) : Int)).toNat * 2) ⟨(ps.flatMap ptc), 29, true, 2⟩ (.agg #[.int .i64 ((ps.getD u (0, 0)).1), .int .i64 ((ps.getD u (0, 0)).2)]) (qL (j := u) kK kK oO z27)) <|
   .e 2 6) ?_
  refine qD 7670 7671<|qM 2 15341<|q6 30683<|al_w _ _ (jS (fun i : List (Int × Int) => (fun (c : List (Int × Int)) => mkSt 2 [(0, .slice (some ⟨5, 0, none⟩) (bs.length + c.length) 0), (4, .slice none 0 0), (5, .int .i64 ((bs.length : Nat) : Int)), (7, .pointer (some ⟨6, 0, none⟩)), (10, .slice (some ⟨1, 0, none⟩) ps.length 0), (11, .int .i64 ((ps.length : Nat) : Int)), (12, .int .i64 ((u : Nat) : Int))] [(1, ⟨(ps.flatMap ptc), 29, true, 2⟩), (5, ⟨((bs ++ c.reverse).flatMap ptc), 29, true, 2⟩), (6, ⟨[.int .i64 ((ps.getD u (0, 0)).1), .int .i64 ((ps.getD u (0, 0)).2)], 29, true, 2⟩)]) i) (fun i : List (Int × Int) => (fun (c : List (Int × Int)) => (Sp.popC (ps.getD u (0, 0)) c = Sp.popC (ps.getD u (0, 0)) (Sp.stk ps u)) ∧ (∀ p ∈ c, p ∈ ps) ∧ (c.length ≤ (Sp.stk ps u).length)) i) (fun i : List (Int × Int) => (fun (c : List (Int × Int)) => c.length) i) (fun i hi2 ih2 => ?_) (Sp.stk ps u) (show (Sp.popC (ps.getD u (0, 0)) (Sp.stk ps u) = Sp.popC (ps.getD u (0, 0)) (Sp.stk ps u)) ∧ (∀ p ∈ (Sp.stk ps u), p ∈ ps) ∧ ((Sp.stk ps u).length ≤ (Sp.stk ps u).length) from ⟨by rfl, by exact fun p hp => Sp.xT oO hp, by exact Nat.le_refl _⟩)) (hc := z15)
  obtain ⟨c, hv2⟩ : ∃ z, z = i := ⟨i, rfl⟩; subst hv2
  have hi2' : (Sp.popC (ps.getD u (0, 0)) c = Sp.popC (ps.getD u (0, 0)) (Sp.stk ps u)) ∧ (∀ p ∈ c, p ∈ ps) ∧ (c.length ≤ (Sp.stk ps u).length) := hi2
  obtain ⟨hpc, hcl, hcb⟩ := hi2'
  show AL _ _ _ (mkSt _ _ _) _
  have hfc := Sp.few_stk dD hb hl hcl; have hfq := hl u
  refine qE<|qD 61366 61367 ?_
  rcases Bool.eq_false_or_eq_true (decide ((((bs.length + c.length) : Nat) : Int) > (((bs.length : Nat) : Int) + 1))) with h2 | h2
  ·have h2p : (((((bs.length + c.length) : Nat) : Int) > (((bs.length : Nat) : Int) + 1))) := pB h2
   have hc2 : 2 ≤ c.length := by omega
   have fa := hfc ((bs.length + c.length) - 2); have fb := hfc ((bs.length + c.length) - 1)
   refine aw_d 122733 (
    .a 3 7 <| .p (qJ (((bs.length : Nat) : Int) + 1) (wrap_i64 oO oO) .i64) <| .p (qN true (h2)) <| .a 4 7 <|
    .p (qJ (((bs.length + c.length) - 2 : Nat) : Int) ((show (IntKind.wrap .i64 ((((bs.length + c.length) : Nat) : Int) - 2)) = (((bs.length + c.length) - 2 : Nat) : Int) from ((wrap_i64 oO oO).trans oO))) .i64) <|
    .p (iX 24 22 25 5 0 (bs.length + c.length) 2 (((bs.length + c.length) - 2 : Nat) : Int) oO oO) <|
    .p (lD 29 26 5 (0 + ((((bs.length + c.length) - 2 : Nat) : Int)).toNat * 2) ⟨((bs ++ c.reverse).flatMap ptc), 29, true, 2⟩ (.agg #[.int .i64 (((bs ++ c.reverse).getD ((bs.length + c.length) - 2) (0, 0)).1), .int .i64 (((bs ++ c.reverse).getD ((bs.length + c.length) - 2) (0, 0)).2)]) (qL (j := ((bs.length + c.length) - 2)) kK kK oO z27)) <|
    .a 3 7 <| .p (qJ (((bs.length + c.length) - 1 : Nat) : Int) ((show (IntKind.wrap .i64 ((((bs.length + c.length) : Nat) : Int) - 1)) = (((bs.length + c.length) - 1 : Nat) : Int) from ((wrap_i64 oO oO).trans oO))) .i64) <|
    .p (iX 24 28 31 5 0 (bs.length + c.length) 2 (((bs.length + c.length) - 1 : Nat) : Int) oO oO) <|
    .p (lD 29 32 5 (0 + ((((bs.length + c.length) - 1 : Nat) : Int)).toNat * 2) ⟨((bs ++ c.reverse).flatMap ptc), 29, true, 2⟩ (.agg #[.int .i64 (((bs ++ c.reverse).getD ((bs.length + c.length) - 1) (0, 0)).1), .int .i64 (((bs ++ c.reverse).getD ((bs.length + c.length) - 1) (0, 0)).2)]) (qL (j := ((bs.length + c.length) - 1)) kK kK oO z27)) <|
    .a 1 7 <|
    .p (qC (vY (((bs ++ c.reverse).getD ((bs.length + c.length) - 2) (0, 0)).1) (((bs ++ c.reverse).getD ((bs.length + c.length) - 2) (0, 0)).2) (((bs ++ c.reverse).getD ((bs.length + c.length) - 1) (0, 0)).1) (((bs ++ c.reverse).getD ((bs.length + c.length) - 1) (0, 0)).2) ((ps.getD u (0, 0)).1) ((ps.getD u (0, 0)).2) oO oO oO oO oO oO oO oO oO oO oO oO)) <|
    .p (qN (Sp.popB (bs ++ c.reverse) (bs.length + c.length) (ps.getD u (0, 0)).1 (ps.getD u (0, 0)).2) (Sp.qA9 _ _ _ _)) <| .e 1 7) ?_
   refine qY 245466 245467 (Sp.popB (bs ++ c.reverse) (bs.length + c.length) (ps.getD u (0, 0)).1 (ps.getD u (0, 0)).2) (fun h3 => ?_) (fun h3 => ?_)
   ·refine qH<|qM 3 122735<|qW (
     .a 3 7 <| .p (qJ (((bs.length + c.length) - 1 : Nat) : Int) ((show (IntKind.wrap .i64 ((((bs.length + c.length) : Nat) : Int) - 1)) = (((bs.length + c.length) - 1 : Nat) : Int) from ((wrap_i64 oO oO).trans oO))) .i64) <|
     .p (jT (v' := .slice (some ⟨5, 0, none⟩) ((bs.length + c.length) - 1) 0) (jN (t := 24) (x := .tmp 38) (lo := none) (hi := some (.tmp 41)) (k := 5) (off := 0) (n := (bs.length + c.length)) (c := 0) (z := 2) (l := 0) (h := (((bs.length + c.length) - 1 : Nat) : Int)) (m := ((bs.length + c.length) - 1)) (b := ⟨((bs ++ c.reverse).flatMap ptc), 29, true, 2⟩) kK kK kK kK kK kK kK kK oO oO oO oO) kK) <|
     .e 1 7) ?_
    refine l9 5 ⟨((bs ++ c.reverse).flatMap ptc), 29, true, 2⟩ ((bs ++ c.tail.reverse).flatMap ptc) (2 * ((bs.length + c.length) - 1)) ?_ (Sp.dE (bs := bs) oO)
    refine al_w [(0, .slice (some ⟨5, 0, none⟩) (bs.length + c.tail.length) 0), (4, .slice none 0 0), (5, .int .i64 ((bs.length : Nat) : Int)), (7, .pointer (some ⟨6, 0, none⟩)), (10, .slice (some ⟨1, 0, none⟩) ps.length 0), (11, .int .i64 ((ps.length : Nat) : Int)), (12, .int .i64 ((u : Nat) : Int))] [(1, ⟨(ps.flatMap ptc), 29, true, 2⟩), (5, ⟨((bs ++ c.tail.reverse).flatMap ptc), 29, true, 2⟩), (6, ⟨[.int .i64 ((ps.getD u (0, 0)).1), .int .i64 ((ps.getD u (0, 0)).2)], 29, true, 2⟩)] ?_ (by (rw [show (bs.length + c.tail.length) = (bs.length + c.length) - 1 from (by rw [List.length_tail]; omega)]); kernel_rfl) kK (hc := z15)
    exact al_w _ _ (ih2 c.tail (show (Sp.popC (ps.getD u (0, 0)) c.tail = Sp.popC (ps.getD u (0, 0)) (Sp.stk ps u)) ∧ (∀ p ∈ c.tail, p ∈ ps) ∧ (c.tail.length ≤ (Sp.stk ps u).length) from ⟨by (rw [← hpc]; exact Sp.qA6 (bs := bs) hc2 aA), by exact fun p hp => hcl p (List.mem_of_mem_tail hp), by (rw [List.length_tail]; omega)⟩) (show c.tail.length < c.length from by (rw [List.length_tail]; omega))) (hc := z15)
   have hst := Sp.popC_no (bs := bs) (q := (ps.getD u (0, 0))) hc2 h3
   refine q5 2<|qG<|qW (
    .a 3 7 <|
    .p (j2 8 29 2 16 5 (bs.length + c.length) 7 1 ⟨((bs ++ c.reverse).flatMap ptc), 29, true, 2⟩ ⟨[.int .i64 ((ps.getD u (0, 0)).1), .int .i64 ((ps.getD u (0, 0)).2)], 29, true, 2⟩ ((bs ++ (Sp.stk ps (u + 1)).reverse).flatMap ptc) kK kK kK kK kK z18 oO oO (Sp.dA hpc hst)) <|
    .e 1 9) ?_
   refine aw_w [(0, .slice (some ⟨8, 0, none⟩) (bs.length + (Sp.stk ps (u + 1)).length) 0), (4, .slice none 0 0), (5, .int .i64 ((bs.length : Nat) : Int)), (7, .pointer (some ⟨6, 0, none⟩)), (10, .slice (some ⟨1, 0, none⟩) ps.length 0), (11, .int .i64 ((ps.length : Nat) : Int)), (12, .int .i64 ((u : Nat) : Int)), (37, .bool (Sp.popB (bs ++ c.reverse) (bs.length + c.length) (ps.getD u (0, 0)).1 (ps.getD u (0, 0)).2))] [(1, ⟨(ps.flatMap ptc), 29, true, 2⟩), (6, ⟨[.int .i64 ((ps.getD u (0, 0)).1), .int .i64 ((ps.getD u (0, 0)).2)], 29, true, 2⟩), (8, ⟨((bs ++ (Sp.stk ps (u + 1)).reverse).flatMap ptc), 29, true, 2⟩)] ?_ z32 z32 (hc := z15)
   refine qW (
    .p (qJ (((u : Nat) : Int) + 1) (wrap_i64 oO oO) .i64) <| .e 1 9) ?_
   refine al_r [(5, 8)] [(0, .slice (some ⟨8, 0, none⟩) (bs.length + (Sp.stk ps (u + 1)).length) 0), (4, .slice none 0 0), (5, .int .i64 ((bs.length : Nat) : Int)), (10, .slice (some ⟨1, 0, none⟩) ps.length 0), (11, .int .i64 ((ps.length : Nat) : Int)), (12, .int .i64 (((u + 1) : Nat) : Int))] [(1, ⟨(ps.flatMap ptc), 29, true, 2⟩), (8, ⟨((bs ++ (Sp.stk ps (u + 1)).reverse).flatMap ptc), 29, true, 2⟩)] [(0, .slice (some ⟨5, 0, none⟩) (bs.length + (Sp.stk ps (u + 1)).length) 0), (4, .slice none 0 0), (5, .int .i64 ((bs.length : Nat) : Int)), (10, .slice (some ⟨1, 0, none⟩) ps.length 0), (11, .int .i64 ((ps.length : Nat) : Int)), (12, .int .i64 (((u + 1) : Nat) : Int))] [(1, ⟨(ps.flatMap ptc), 29, true, 2⟩), (5, ⟨((bs ++ (Sp.stk ps (u + 1)).reverse).flatMap ptc), 29, true, 2⟩)] ?_ ⟨rfl, (.slice _ _ _ _ _ rfl), rfl, (.flatB kK), rfl, (.flatB kK), rfl, (.slice _ _ _ _ _ rfl), rfl, (.flatB kK), rfl, (.flatB kK), trivial⟩ ⟨rfl, ⟨rfl, rfl, rfl, (.flats (qA _))⟩, rfl, ⟨rfl, rfl, rfl, (.flats (qA _))⟩, trivial⟩
   exact ih1 (u + 1) (show (1 ≤ (u + 1) ∧ (u + 1) ≤ ps.length) from by omega) (show ps.length - (u + 1) < ps.length - u from by omega)
  have h2p : ¬ (((((bs.length + c.length) : Nat) : Int) > (((bs.length : Nat) : Int) + 1))) := pB h2
  have hst := Sp.pX (q := (ps.getD u (0, 0))) (c := c) oO
  refine aw_d 122733 (
   .a 3 7 <| .p (qJ (((bs.length : Nat) : Int) + 1) (wrap_i64 oO oO) .i64) <| .p (qN false (h2)) <| .e 17 7) ?_
  refine qP 245467<|q5 2<|qG<|qW (
   .a 3 7 <|
   .p (j2 8 29 2 16 5 (bs.length + c.length) 7 1 ⟨((bs ++ c.reverse).flatMap ptc), 29, true, 2⟩ ⟨[.int .i64 ((ps.getD u (0, 0)).1), .int .i64 ((ps.getD u (0, 0)).2)], 29, true, 2⟩ ((bs ++ (Sp.stk ps (u + 1)).reverse).flatMap ptc) kK kK kK kK kK z18 oO oO (Sp.dA hpc hst)) <|
   .e 1 9) ?_
  refine aw_w [(0, .slice (some ⟨8, 0, none⟩) (bs.length + (Sp.stk ps (u + 1)).length) 0), (4, .slice none 0 0), (5, .int .i64 ((bs.length : Nat) : Int)), (7, .pointer (some ⟨6, 0, none⟩)), (10, .slice (some ⟨1, 0, none⟩) ps.length 0), (11, .int .i64 ((ps.length : Nat) : Int)), (12, .int .i64 ((u : Nat) : Int)), (37, .bool false)] [(1, ⟨(ps.flatMap ptc), 29, true, 2⟩), (6, ⟨[.int .i64 ((ps.getD u (0, 0)).1), .int .i64 ((ps.getD u (0, 0)).2)], 29, true, 2⟩), (8, ⟨((bs ++ (Sp.stk ps (u + 1)).reverse).flatMap ptc), 29, true, 2⟩)] ?_ z32 z32 (hc := z15)
  refine qW (
   .p (qJ (((u : Nat) : Int) + 1) (wrap_i64 oO oO) .i64) <| .e 1 9) ?_
  refine al_r [(5, 8)] [(0, .slice (some ⟨8, 0, none⟩) (bs.length + (Sp.stk ps (u + 1)).length) 0), (4, .slice none 0 0), (5, .int .i64 ((bs.length : Nat) : Int)), (10, .slice (some ⟨1, 0, none⟩) ps.length 0), (11, .int .i64 ((ps.length : Nat) : Int)), (12, .int .i64 (((u + 1) : Nat) : Int))] [(1, ⟨(ps.flatMap ptc), 29, true, 2⟩), (8, ⟨((bs ++ (Sp.stk ps (u + 1)).reverse).flatMap ptc), 29, true, 2⟩)] [(0, .slice (some ⟨5, 0, none⟩) (bs.length + (Sp.stk ps (u + 1)).length) 0), (4, .slice none 0 0), (5, .int .i64 ((bs.length : Nat) : Int)), (10, .slice (some ⟨1, 0, none⟩) ps.length 0), (11, .int .i64 ((ps.length : Nat) : Int)), (12, .int .i64 (((u + 1) : Nat) : Int))] [(1, ⟨(ps.flatMap ptc), 29, true, 2⟩), (5, ⟨((bs ++ (Sp.stk ps (u + 1)).reverse).flatMap ptc), 29, true, 2⟩)] ?_ ⟨rfl, (.slice _ _ _ _ _ rfl), rfl, (.flatB kK), rfl, (.flatB kK), rfl, (.slice _ _ _ _ _ rfl), rfl, (.flatB kK), rfl, (.flatB kK), trivial⟩ ⟨rfl, ⟨rfl, rfl, rfl, (.flats (qA _))⟩, rfl, ⟨rfl, rfl, rfl, (.flats (qA _))⟩, trivial⟩
  exact ih1 (u + 1) (show (1 ≤ (u + 1) ∧ (u + 1) ≤ ps.length) from by omega) (show ps.length - (u + 1) < ps.length - u from by omega)
 have h1p : ¬ ((((u : Nat) : Int) < ((ps.length : Nat) : Int))) := pB h1
 have hin : u = ps.length := by omega
 refine q5 0<|qG<|aw_w [(0, .slice (some ⟨5, 0, none⟩) (bs.length + (Sp.stk ps ps.length).length) 0), (4, .slice none 0 0)] [(1, ⟨(ps.flatMap ptc), 29, true, 2⟩), (5, ⟨((bs ++ (Sp.stk ps ps.length).reverse).flatMap ptc), 29, true, 2⟩)] ?_ (by subst hin; kernel_rfl) (by subst hin; kernel_rfl) (hc := z15)
 refine aw_p 31 (
  .a 3 6 <|
  .p (qJ (((bs.length + (Sp.stk ps ps.length).length) - 1 : Nat) : Int) ((show (IntKind.wrap .i64 (((bs.length + (Sp.stk ps ps.length).length : Nat) : Int) - 1)) = (((bs.length + (Sp.stk ps ps.length).length) - 1 : Nat) : Int) from ((wrap_i64 oO oO).trans oO))) .i64) <|
  .p (jT (v' := .slice (some ⟨5, 0, none⟩) ((bs.length + (Sp.stk ps ps.length).length) - 1) 0) (jN (t := 24) (x := .tmp 48) (lo := none) (hi := some (.tmp 51)) (k := 5) (off := 0) (n := (bs.length + (Sp.stk ps ps.length).length)) (c := 0) (z := 2) (l := 0) (h := (((bs.length + (Sp.stk ps ps.length).length) - 1 : Nat) : Int)) (m := ((bs.length + (Sp.stk ps ps.length).length) - 1)) (b := ⟨((bs ++ (Sp.stk ps ps.length).reverse).flatMap ptc), 29, true, 2⟩) kK kK kK kK kK kK kK kK oO oO oO oO) kK) <|
  .e 1 6) ?_
 refine lR 5 ⟨((bs ++ (Sp.stk ps ps.length).reverse).flatMap ptc), 29, true, 2⟩ ((bs ++ Sp.chO ps).flatMap ptc) (2 * ((bs.length + (Sp.stk ps ps.length).length) - 1)) ?_ (Sp.dE (bs := bs) hsp)
 refine aw_w [(4, .slice (some ⟨5, 0, none⟩) ((bs ++ Sp.chO ps).length) 0)] [(1, ⟨(ps.flatMap ptc), 29, true, 2⟩), (5, ⟨((bs ++ Sp.chO ps).flatMap ptc), 29, true, 2⟩)] ?_ (by (rw [show (bs ++ Sp.chO ps).length = (bs.length + (Sp.stk ps ps.length).length) - 1 from Sp.qC4 (bs := bs) hps]); kernel_rfl) kK (hc := z15)
 refine aw_r [(2, 5)] [(4, .slice (some ⟨5, 0, none⟩) ((bs ++ Sp.chO ps).length) 0)] [(1, ⟨(ps.flatMap ptc), 29, true, 2⟩), (5, ⟨((bs ++ Sp.chO ps).flatMap ptc), 29, true, 2⟩)] [(4, .slice (some ⟨2, 0, none⟩) ((bs ++ Sp.chO ps).length) 0)] [(1, ⟨(ps.flatMap ptc), 29, true, 2⟩), (2, ⟨((bs ++ Sp.chO ps).flatMap ptc), 29, true, 2⟩)] ?_ ⟨rfl, (.slice _ _ _ _ _ rfl), trivial⟩ ⟨rfl, ⟨rfl, rfl, rfl, (.flats (qA _))⟩, rfl, ⟨rfl, rfl, rfl, (.flats (qA _))⟩, trivial⟩
 exact qF<|qB [.slice (some ⟨2, 0, none⟩) ((bs ++ Sp.chO ps).length) 0] kK
open Go Go.Proofs
theorem rev_ok (ps : List (Int × Int)) (hn : 1 ≤ ps.length) (hz : ps.length ≤ 8796093021952) :
    AC Try.prog 85 1 ([.slice (some ⟨0, 0, none⟩) ps.length 0]) [(0, ⟨(ps.flatMap ptc), 29, true, 2⟩)] (.tuple #[]) [(0, ⟨(ps.reverse.flatMap ptc), 29, true, 2⟩)] := by
 refine qK Try.func85 (fun w0 W pin => ?_)
 refine aw_p 3 (
  .a 2 1 <| .p (qJ ((ps.length - 1 : Nat) : Int) ((show (IntKind.wrap .i64 (((ps.length : Nat) : Int) - 1)) = ((ps.length - 1 : Nat) : Int) from ((wrap_i64 oO oO).trans oO))) .i64) <| .e 2 1) ?_
 refine qM 0 7<|aw_w [(0, .slice (some ⟨0, 0, none⟩) ps.length 0), (2, .int .i64 0), (3, .int .i64 ((ps.length - 1 : Nat) : Int)), (4, .slice (some ⟨0, 0, none⟩) ps.length 0), (5, .int .i64 ((ps.length : Nat) : Int)), (6, .int .i64 ((ps.length - 1 : Nat) : Int))] [(0, ⟨((Sp.rvl ps 0).flatMap ptc), 29, true, 2⟩)] ?_ kK (by rw [Sp.rvl_0]; kernel_rfl) (hc := z15)
 refine q6 15<|al_w _ _ (jS (fun i : Nat × Nat => (fun (u : Nat) (v : Nat) => mkSt 1 [(0, .slice (some ⟨0, 0, none⟩) ps.length 0), (2, .int .i64 ((u : Nat) : Int)), (3, .int .i64 ((v : Nat) : Int))] [(0, ⟨((Sp.rvl ps u).flatMap ptc), 29, true, 2⟩)]) i.1 i.2) (fun i : Nat × Nat => (fun (u : Nat) (v : Nat) => (u + v + 1 = ps.length)) i.1 i.2) (fun i : Nat × Nat => (fun (u : Nat) (v : Nat) => v - u) i.1 i.2) (fun i hi1 ih1 => ?_) (0, (ps.length - 1)) (show (0 + (ps.length - 1) + 1 = ps.length) from by omega)) (hc := z15)
 obtain ⟨u, v⟩ := i
 have hi1' : (u + v + 1 = ps.length) := hi1
 have hv : u + v + 1 = ps.length := hi1'
 show AL _ _ _ (mkSt _ _ _) _
 refine qE<|qD 30 31<|aw_e 61 3 1<|qY 122 123 (decide (((u : Nat) : Int) < ((v : Nat) : Int))) (fun h1 => ?_) (fun h1 => ?_)
 ·have h1p : ((((u : Nat) : Int) < ((v : Nat) : Int))) := pB h1
  have hlt : u < v := by omega
  refine qH<|qD 62 63<|qM 1 125<|fX (
   .a 6 1 <| .p (iX 24 18 19 0 0 ps.length 2 ((v : Nat) : Int) oO oO) <|
   .p (lD 29 20 0 (0 + (((v : Nat) : Int)).toNat * 2) ⟨((Sp.rvl ps u).flatMap ptc), 29, true, 2⟩ (.agg #[.int .i64 (((Sp.rvl ps u).getD v (0, 0)).1), .int .i64 (((Sp.rvl ps u).getD v (0, 0)).2)]) (qL (j := v) kK kK oO z29)) <|
   .a 2 1 <| .p (iX 24 22 23 0 0 ps.length 2 ((u : Nat) : Int) oO oO) <|
   .p (lD 29 24 0 (0 + (((u : Nat) : Int)).toNat * 2) ⟨((Sp.rvl ps u).flatMap ptc), 29, true, 2⟩ (.agg #[.int .i64 (((Sp.rvl ps u).getD u (0, 0)).1), .int .i64 (((Sp.rvl ps u).getD u (0, 0)).2)]) (qL (j := u) kK kK oO z29)) <|
   .p (iX 24 14 15 0 0 ps.length 2 ((u : Nat) : Int) oO oO) <|
   .p (j4 (t := 29) (x := .tmp 26) (y := .tmp 21) (k := 0) (off := (0 + (((u : Nat) : Int)).toNat * 2)) (b := ⟨((Sp.rvl ps u).flatMap ptc), 29, true, 2⟩) (v := .agg #[.int .i64 (((Sp.rvl ps u).getD v (0, 0)).1), .int .i64 (((Sp.rvl ps u).getD v (0, 0)).2)]) (cells := (((Sp.rvl ps u).set u ((((Sp.rvl ps u).getD v (0, 0)).1), (((Sp.rvl ps u).getD v (0, 0)).2))).flatMap ptc)) kK kK kK kK kK kK kK (Nat.ble_eq_true_of_le (by show _ + 2 ≤ ((Sp.rvl ps u).flatMap ptc).length; rw [pairs_length]; first | omega | (simp only [Sp.yH, List.length_set]; omega))) (mP (j := u) oO z29)) <|
   .p (iX 24 16 17 0 0 ps.length 2 ((v : Nat) : Int) oO oO) <|
   .p (j4 (t := 29) (x := .tmp 27) (y := .tmp 25) (k := 0) (off := (0 + (((v : Nat) : Int)).toNat * 2)) (b := ⟨(((Sp.rvl ps u).set u ((((Sp.rvl ps u).getD v (0, 0)).1), (((Sp.rvl ps u).getD v (0, 0)).2))).flatMap ptc), 29, true, 2⟩) (v := .agg #[.int .i64 (((Sp.rvl ps u).getD u (0, 0)).1), .int .i64 (((Sp.rvl ps u).getD u (0, 0)).2)]) (cells := ((((Sp.rvl ps u).set u ((((Sp.rvl ps u).getD v (0, 0)).1), (((Sp.rvl ps u).getD v (0, 0)).2))).set v ((((Sp.rvl ps u).getD u (0, 0)).1), (((Sp.rvl ps u).getD u (0, 0)).2))).flatMap ptc)) kK kK kK kK kK kK kK (Nat.ble_eq_true_of_le (by show _ + 2 ≤ (((Sp.rvl ps u).set u ((((Sp.rvl ps u).getD v (0, 0)).1), (((Sp.rvl ps u).getD v (0, 0)).2))).flatMap ptc).length; rw [pairs_length]; first | omega | (simp only [Sp.yH, List.length_set]; omega))) (mP (j := v) oO z29)) <| .nil _ _) ?_
  refine aw_w [(0, .slice (some ⟨0, 0, none⟩) ps.length 0), (2, .int .i64 ((u : Nat) : Int)), (3, .int .i64 ((v : Nat) : Int)), (7, .int .i64 ((u : Nat) : Int)), (8, .int .i64 ((v : Nat) : Int)), (9, .bool (decide (((u : Nat) : Int) < ((v : Nat) : Int)))), (14, .slice (some ⟨0, 0, none⟩) ps.length 0), (15, .int .i64 ((u : Nat) : Int)), (16, .slice (some ⟨0, 0, none⟩) ps.length 0), (17, .int .i64 ((v : Nat) : Int)), (18, .slice (some ⟨0, 0, none⟩) ps.length 0), (19, .int .i64 ((v : Nat) : Int)), (20, .pointer (some ⟨0, 0 + (((v : Nat) : Int)).toNat * 2, none⟩)), (21, .agg #[.int .i64 (((Sp.rvl ps u).getD v (0, 0)).1), .int .i64 (((Sp.rvl ps u).getD v (0, 0)).2)]), (22, .slice (some ⟨0, 0, none⟩) ps.length 0), (23, .int .i64 ((u : Nat) : Int)), (24, .pointer (some ⟨0, 0 + (((u : Nat) : Int)).toNat * 2, none⟩)), (25, .agg #[.int .i64 (((Sp.rvl ps u).getD u (0, 0)).1), .int .i64 (((Sp.rvl ps u).getD u (0, 0)).2)]), (26, .pointer (some ⟨0, 0 + (((u : Nat) : Int)).toNat * 2, none⟩)), (27, .pointer (some ⟨0, 0 + (((v : Nat) : Int)).toNat * 2, none⟩))] [(0, ⟨((Sp.rvl ps (u + 1)).flatMap ptc), 29, true, 2⟩)] ?_ kK (by rw [← Sp.rvl_next hv hlt]; kernel_rfl) (hc := z15)
  refine qW (
   .a 1 1 <| .p (qJ (((u : Nat) : Int) + 1) (wrap_i64 oO oO) .i64) <| .a 1 1 <| .p (qJ ((v - 1 : Nat) : Int) ((show (IntKind.wrap .i64 (((v : Nat) : Int) - 1)) = ((v - 1 : Nat) : Int) from ((wrap_i64 oO oO).trans oO))) .i64) <| .e 2 1) ?_
  exact al_w _ _ (ih1 ((u + 1), (v - 1)) (show ((u + 1) + (v - 1) + 1 = ps.length) from by omega) (show (v - 1) - (u + 1) < v - u from by omega)) (hc := z15)
 have h1p : ¬ ((((u : Nat) : Int) < ((v : Nat) : Int))) := pB h1
 have hge : ¬ u < v := by omega
 refine aw_w [(0, .slice (some ⟨0, 0, none⟩) ps.length 0), (2, .int .i64 ((u : Nat) : Int)), (3, .int .i64 ((v : Nat) : Int)), (7, .int .i64 ((u : Nat) : Int)), (8, .int .i64 ((v : Nat) : Int)), (9, .bool (decide (((u : Nat) : Int) < ((v : Nat) : Int))))] [(0, ⟨(ps.reverse.flatMap ptc), 29, true, 2⟩)] ?_ kK (by rw [← Sp.rvl_end hv hge]; kernel_rfl) (hc := z15)
 exact q5 0<|qG<|v8 [] kK
end Go.Proofs.Ytadifmimefmcnaa.Am
namespace Go.Proofs.Ytadifmimefmcnaa.Am.Sp
open Go
section
variable {h : List (Int × Int)} {x y ax ay : Int} {k : Nat}
end
theorem stk_take (l : List (Int × Int)) : ∀ i, i ≤ l.length → stk l i = stk (l.take i) i
  | i, hi => by
    have key : ∀ k, k ≤ i → stk l k = stk (l.take i) k := by
      intro k
      induction k with
      | zero => intro _; rfl
      | succ k ih =>
        intro hk
        have e : (l.take i).getD k (0, 0) = l.getD k (0, 0) := by
          rw [List.getD_eq_getElem?_getD, List.getElem?_take, if_pos (by omega), List.getD_eq_getElem?_getD]
        rw [stk, stk, ih (by omega), e]
    exact key i (Nat.le_refl _)
theorem bF : ∀ {l m : List (Int × Int)}, l.Nodup → (∀ p ∈ l, p ∈ m) → l.length ≤ m.length
  | [], m, _, _ => Nat.zero_le _
  | a :: r, m, h, hs => by
    have hn := List.nodup_cons.1 h
    have ha := hs a (by simp)
    have := bF (l := r) (m := m.erase a) hn.2 (fun p hp => (List.mem_erase_of_ne (fun (e : p = a) => hn.1 (by rw [← e]; exact hp))).2 (hs p (List.mem_cons_of_mem _ hp)))
    rw [List.length_erase_of_mem ha] at this
    have : 1 ≤ m.length := List.length_pos_of_mem ha
    simp only [List.length_cons]; omega
theorem Ds.pair : ∀ {C : List (Int × Int)}, Ds C → C.Pairwise (fun a b => lxP b a)
  | [], _ => .nil
  | [a], _ => List.pairwise_singleton _ _
  | b :: a :: r, h => by
    have ih := Ds.pair h.2
    refine List.pairwise_cons.2 ⟨fun x hx => ?_, ih⟩
    rcases List.mem_cons.1 hx with k | k
    · subst k; exact h.1
    · exact ((List.pairwise_cons.1 ih).1 x k).trans h.1
theorem Ds.nodup {C : List (Int × Int)} (h : Ds C) : C.Nodup := h.pair.imp (fun {a b} k e => by subst e; exact k.irr)
/-- the upper chain of the last i points -/
theorem up_chn {s : List (Int × Int)} (h : s.Pairwise lxP) {i : Nat} (h1 : 1 ≤ i) (hi : i ≤ s.length) : Chn ((s.reverse.take i).map negP) ((stk s.reverse i).map negP) := by
  have hl : (s.reverse.take i).length = i := by rw [List.length_take, List.length_reverse]; omega
  rw [stk_take s.reverse i (by rw [List.length_reverse]; exact hi)]
  have e2 : stk (s.reverse.take i) i = chS [] (s.reverse.take i) := by
    have := sH (s.reverse.take i)
    rw [hl] at this; exact this
  rw [e2]
  have hr : ((s.reverse.take i).map negP).Pairwise lxP := by
    rw [List.pairwise_map]
    exact ((List.pairwise_reverse.2 (h.imp (fun k => cV.2 k))).sublist (List.take_sublist _ _))
  cases hx : s.reverse.take i with
  | nil => rw [hx] at hl; simp at hl; omega
  | cons b r =>
    rw [hx, List.map_cons] at hr
    have := chn_of hr
    rw [show chS ([] : List (Int × Int)) (negP b :: r.map negP) = (chS [] (b :: r)).map negP from eL (b :: r) []] at this
    exact this
/-- a corner of the lower chain is none of the upper chain of the points behind it, but for its ends -/
theorem low_up {s : List (Int × Int)} (h : s.Pairwise lxP) (h2 : 1 ≤ s.length) {i j : Nat} (h1 : 1 ≤ i) (hi : i ≤ s.length) (hj : j + 2 < (stk s.reverse i).length) : (stk s.reverse i).getD (j + 1) (0, 0) ∉ stk s s.length := by
  intro hm
  have cu := up_chn h h1 hi
  have cl := (rV h h2).low
  have hmem : ∀ q, q < (stk s.reverse i).length → (stk s.reverse i).getD q (0, 0) ∈ s := fun q hq => by
    have := cu.sub (negP ((stk s.reverse i).getD q (0, 0))) (List.mem_map.2 ⟨_, dJ hq, rfl⟩)
    obtain ⟨z, hz, e⟩ := List.mem_map.1 this
    rw [← dH e]
    exact List.mem_reverse.1 (List.mem_of_mem_take hz)
  have t := cu.tr.at (j := j) (by simpa using hj)
  have d1 := cu.ds.at (j := j) (by simp; omega)
  have d2 := cu.ds.at (j := j + 1) (by simp; omega)
  rw [getD_map_neg, getD_map_neg, getD_map_neg, crP_neg] at t
  rw [getD_map_neg, getD_map_neg, cV] at d1 d2
  -- a < p < c, p above
  have ma := hmem j (by omega)
  have mc := hmem (j + 2) (by omega)
  generalize (stk s.reverse i).getD (j + 2) (0, 0) = c at *
  generalize (stk s.reverse i).getD (j + 1) (0, 0) = p at *
  generalize (stk s.reverse i).getD j (0, 0) = a at *
  obtain ⟨k, hk, e⟩ := List.mem_iff_getElem.1 hm
  have hkp : (stk s s.length).getD k (0, 0) = p := by rw [jV hk, e]
  have hb := (rV h h2).bot
  have hk1 : k + 1 < (stk s s.length).length := by
    rcases Nat.lt_or_ge (k + 1) (stk s s.length).length with g | g
    · exact g
    · have ek : k = (stk s s.length).length - 1 := by omega
      have := hb.2 a ma
      rw [← ek, hkp] at this
      rcases this with q | q
      · subst q; exact d1.irr.elim
      · exact (d1.trans q).irr.elim
  have l1 := cl.lf.at hk1 a ma
  have l2 := cl.lf.at hk1 c mc
  have dd := cl.ds.at hk1
  rw [hkp] at l1 l2 dd
  have := cX dd d2 (.inl d1) l2 l1
  have e2 : crP c p a = -crP p c a := by unfold crP crs; grind
  omega
theorem qC5 {s : List (Int × Int)} (h : s.Pairwise lxP) (h2 : 1 ≤ s.length) {i : Nat} (hi : i ≤ s.length) : (chO s).length + (stk s.reverse i).length ≤ s.length + 1 := by
  have hl := eM (l := s)
  have hp := (rV h h2).posL
  have hL : (stk s s.length).length ≤ s.length := xC s s.length
  rcases Nat.lt_or_ge (stk s.reverse i).length 3 with c | c
  · omega
  · have h1 : 1 ≤ i := by
      rcases Nat.eq_zero_or_pos i with z | z
      · subst z; simp [stk] at c
      · exact z
    have cu := up_chn h h1 hi
    have nu : (stk s.reverse i).Nodup := by
      have := cu.ds.nodup
      exact (List.pairwise_map.1 this).imp (fun {x y} k e => k (congrArg negP e))
    have nl := (rV h h2).low.ds.nodup
    -- the inner points of the upper chain, and the lower chain
    have key := bF (l := ((stk s.reverse i).drop 1).dropLast ++ stk s s.length) (m := s) ?_ ?_
    · rw [List.length_append, List.length_dropLast, List.length_drop] at key
      omega
    · refine List.nodup_append.2 ⟨?_, nl, fun a ha b hb e => ?_⟩
      · exact ((nu.sublist (List.drop_sublist _ _)).sublist (List.dropLast_sublist _))
      · subst e
        obtain ⟨k, hk, e⟩ := List.mem_iff_getElem.1 ha
        rw [List.length_dropLast, List.length_drop] at hk
        rw [List.getElem_dropLast, List.getElem_drop] at e
        refine low_up h h2 h1 hi (j := k) (by omega) ?_
        rw [jV (by omega)]
        have : (stk s.reverse i)[k + 1]'(by omega) = a := by rw [← e]; congr 1; omega
        rw [this]; exact hb
    · intro p hp'
      rcases List.mem_append.1 hp' with q | q
      · have hm := List.mem_of_mem_drop (List.dropLast_subset _ q)
        exact List.mem_reverse.1 (xT (by rw [List.length_reverse]; exact hi) hm)
      · exact xT (Nat.le_refl _) q
end Go.Proofs.Ytadifmimefmcnaa.Am.Sp
