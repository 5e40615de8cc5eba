import Derived.Test.YtigllakcfdoagaaAm10
import Derived.Deep.Slices
import Derived.WideKeyArgs
namespace Go.Proofs.Ytigllakcfdoagaa.Am
open Go Go.RowKit Go.WideShapes Go.ChangeShapes Go.ChangeAt Go.Deep
/-! ### 22. A slice of flat elements as an argument: a block that is only read -/
section
variable {H : Type} {enc : TypeId × Value → H} {P : Program}
theorem open_rows {n : Nat} {t e : TypeId} {ks : List LK} {w : World} {v : Value} {d : DataW H} {p : List MemPlace} (ht : P.underlying t = some (.slice e)) (hl : leafs P n e = some ks) (hz : P.cellsOf e = ks.length) (hk : 0 < ks.length)
    (hv : ∃ a l c, v = .slice a l c) (h : DataW.Trod enc P w 0 (fun _ => true) true t v d p) :
    ∃ (rows : List (List Value)) (sp : Spot), (∀ r ∈ rows, LeafsOk ks r ∧ r.length = ks.length) ∧ rows.length ≤ maxLen ∧
      ∀ (ρ : Ren) (k : Nat), ρ k = some sp → VRel ρ (.slice (some ⟨k, 0, none⟩) rows.length 0) v ∧ BlkOk ρ w sp ⟨rows.flatten, e, false, ks.length⟩ := by
  obtain ⟨a0, l0, c0, rfl⟩ := hv
  obtain ⟨fuel, hf⟩ := h
  have none' : ∀ (A : Option Addr) (sp : Spot), sp.step = ks.length → ∀ (ρ : Ren) (k : Nat), ρ k = some sp → VRel ρ (.slice (some ⟨k, 0, none⟩) ([] : List (List Value)).length 0) (.slice A 0 0) ∧ BlkOk ρ w sp ⟨([] : List (List Value)).flatten, e, false, ks.length⟩ := by
    intro A sp hs ρ k _
    exact ⟨.slice0 k 0 0 A, (BlkOk.ro (by simp)).2 ⟨hs, .inl rfl, fun i u hu => by simp at hu⟩⟩
  rcases open_slice ht hf with ⟨hcs, hx⟩ | ⟨a, len, cap, m, n', D, Pl, hcs, hb, hlen, hm, hmm, hx, hi⟩
  · simp [Value.cells] at hcs
    obtain ⟨rfl, rfl, rfl⟩ := hcs
    exact ⟨[], ⟨0, 0, 0, ks.length⟩, by simp, by simp, none' none _ rfl⟩
  · simp [Value.cells] at hcs
    obtain ⟨rfl, rfl, rfl⟩ := hcs
    simp only [if_true] at hmm
    subst hmm
    rcases Nat.eq_zero_or_pos m with rfl | hpos
    · obtain rfl : l0 = 0 := by omega
      exact ⟨[], ⟨0, 0, 0, ks.length⟩, by simp, by simp, none' (some a) _ rfl⟩
    · have row : ∀ i, ∃ r : List Value, i < m → r.length = ks.length ∧ LeafsOk ks r ∧ ∀ j, j < ks.length → w.cell? (a.add (i * ks.length + j)) = r[j]? := by
        intro i
        by_cases him : i < m
        · obtain ⟨cs', h1, h2⟩ := hi i him
          obtain ⟨_, h3, h4⟩ := World.cells?_some h1
          rw [hz] at h3 h4
          refine ⟨cs', fun _ => ⟨h3, (open_leafs n hl h2).1, fun j hj => ?_⟩⟩
          rw [← Go.Deep.add_add]; exact h4 j hj
        · exact ⟨[], fun q => absurd q him⟩
      obtain ⟨R, hR⟩ : ∃ R : Nat → List Value, ∀ i, i < m → (R i).length = ks.length ∧ LeafsOk ks (R i) ∧ ∀ j, j < ks.length → w.cell? (a.add (i * ks.length + j)) = (R i)[j]? := ⟨fun i => (row i).choose, fun i => (row i).choose_spec⟩
      have c0 := (hR 0 hpos).2.2 0 hk
      have hsome : (R 0)[0]? = some ((R 0)[0]'(by rw [(hR 0 hpos).1]; exact hk)) := List.getElem?_eq_getElem _
      rw [hsome] at c0
      have hspot : a.spot = none ∧ a.block < w.heap.size := by
        simp only [Nat.zero_mul, Nat.add_zero, Addr.add, if_true] at c0
        unfold World.cell? at c0
        split at c0
        · rename_i hg
          split at c0
          · cases c0
          · rename_i hs
            exact ⟨by simpa using hs, (Array.getElem?_eq_some_iff.1 hg).1⟩
        · cases c0
      obtain ⟨ab, ao, as⟩ := a
      obtain ⟨rfl, hlt⟩ : as = none ∧ ab < w.heap.size := hspot
      refine ⟨(List.range l0).map R, ⟨ab, ao, m * ks.length, ks.length⟩, ?_, by simp; omega, ?_⟩
      · intro r hr
        obtain ⟨i, hi', rfl⟩ := List.mem_map.1 hr
        have := hR i (by have := List.mem_range.1 hi'; omega)
        exact ⟨this.2.1, this.1⟩
      · intro ρ k hρ
        refine ⟨?_, ?_⟩
        · have := VRel.slice (ρ := ρ) k 0 ((List.range l0).map R).length 0 m ⟨ab, ao, m * ks.length, ks.length⟩ hρ (by simpa using hlen) (by simp)
          simpa using this
        · rw [BlkOk.ro (by simp)]
          refine ⟨rfl, .inr hlt, fun i u hu => ?_⟩
          have flat : ∀ (q : Nat) (i : Nat) (u : Value), q ≤ m → (((List.range q).map R).flatten)[i]? = some u → ∃ r j, i = r * ks.length + j ∧ r < q ∧ j < ks.length ∧ (R r)[j]? = some u := by
            intro q
            induction q with
            | zero => intro i u _ hu; simp at hu
            | succ q ihq =>
              intro i u hq hu
              rw [List.range_succ, List.map_append, List.flatten_append] at hu
              have hlenq : (((List.range q).map R).flatten).length = q * ks.length := by
                clear hu ihq
                induction q with
                | zero => simp
                | succ q ih2 =>
                  rw [List.range_succ, List.map_append, List.flatten_append, List.length_append, ih2 (by omega)]
                  simp only [List.map_cons, List.map_nil, List.flatten_cons, List.flatten_nil, List.append_nil]
                  rw [(hR q (by omega)).1, Nat.succ_mul]
              by_cases hlt' : i < q * ks.length
              · rw [List.getElem?_append_left (by omega)] at hu
                obtain ⟨r, j, e1, e2, e3, e4⟩ := ihq i u (by omega) hu
                exact ⟨r, j, e1, by omega, e3, e4⟩
              · rw [List.getElem?_append_right (by omega), hlenq] at hu
                simp only [List.map_cons, List.map_nil, List.flatten_cons, List.flatten_nil, List.append_nil] at hu
                have hj : i - q * ks.length < ks.length := by
                  have := (List.getElem?_eq_some_iff.1 hu).1
                  rw [(hR q (by omega)).1] at this; exact this
                exact ⟨q, i - q * ks.length, by omega, by omega, hj, hu⟩
          obtain ⟨r, j, e1, e2, e3, e4⟩ := flat l0 i u (by omega) hu
          have hc := (hR r (by omega)).2.2 j e3
          rw [e4] at hc
          refine ⟨u, ?_, ?_⟩
          · show w.cell? ⟨ab, ao + i, none⟩ = some u
            rw [e1, ← hc]
            unfold Addr.add
            split
            · rename_i h0; rw [h0]; rfl
            · rfl
          · have lk := (hR r (by omega)).2.1
            have only : ∀ (ks : List LK) (cs : List Value), LeafsOk ks cs → ∀ u ∈ cs, VRel ρ u u := by
              intro ks
              induction ks with
              | nil => intro cs h u hu; cases h; simp at hu
              | cons x ks ih =>
                intro cs h u hu
                cases x with
                | int k =>
                  obtain ⟨n, cs', rfl, _, h'⟩ := h
                  rcases List.mem_cons.1 hu with rfl | hu
                  · exact .int _ _
                  · exact ih cs' h' u hu
                | bool =>
                  obtain ⟨n, cs', rfl, h'⟩ := h
                  rcases List.mem_cons.1 hu with rfl | hu
                  · exact .bool _
                  · exact ih cs' h' u hu
                | str =>
                  obtain ⟨n, cs', rfl, _, h'⟩ := h
                  rcases List.mem_cons.1 hu with rfl | hu
                  · exact .string _
                  · exact ih cs' h' u hu
            exact only ks _ lk u (List.mem_of_getElem? e4)
end
end Go.Proofs.Ytigllakcfdoagaa.Am
