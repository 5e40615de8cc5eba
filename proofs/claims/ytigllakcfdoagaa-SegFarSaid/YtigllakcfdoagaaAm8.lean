import Derived.Test.YtigllakcfdoagaaAm7
import Derived.WalkKit
import Derived.ProofKit
import Derived.OpenShut
import Derived.Below
import Derived.ChangeSame
namespace Go.Proofs.Ytigllakcfdoagaa.Am
open Go Go.RowKit Go.WideShapes Go.ChangeShapes Go.ChangeAt
/-! ### 19. From a contract to a row -/
section
variable {H : Type} {enc : TypeId × Value → H} {P : Program}
/-- The row's last step where 'Below' alone is known of the world behind the call (turned from the guide's own lemma of that use). -/
theorem row_post {f : Func} {s : ChangeSpec} {apart fresh handsOn again : Bool} {W W' : World} {args : Array Value} {v : Value} {ds gs : List (DataW H)} {before pa pv : List MemPlace}
    (hW : DataW.Whole enc P f.params.toList s.vars apart W args.toList ds gs before)
    (hres : ∀ (b : Nat) (sp : Nat → Bool) (hd : Bool), DataW.TrodAll enc P W' b sp hd f.resultTypes.toList (v.resultList f.resultTypes.size) (s.fn H (ds ++ gs)).results [])
    (hargs : ∀ sp : Nat → Bool, (∀ p ∈ before, sp p.block = true) → DataW.TrodAll enc P W' 0 sp true f.params.toList args.toList (s.fn H (ds ++ gs)).args pa)
    (hvars : ∀ sp : Nat → Bool, (∀ p ∈ before, sp p.block = true) → DataW.TrodVars enc P W' sp s.vars (s.fn H (ds ++ gs)).vars pv)
    (hps : before = pa ++ pv) (hb : Below W.heap.size W W')
    (hok : ∀ (j : Nat) (t : TypeId) (r : Value), f.resultTypes[j]? = some t → (v.resultList f.resultTypes.size)[j]? = some r → Value.okWide P W' .any 0 t r) :
    s.post enc P f apart fresh handsOn again W args v W' := by
  have hlt : ∀ p ∈ before, p.block < W.heap.size := fun p hp => hW.lt p hp
  have hold : ∀ p ∈ before, (fun b => decide (b < W.heap.size)) p.block = true := fun p hp => by simpa using hlt p hp
  refine ⟨ds, gs, before, [], pa, pv, hW, hres _ _ _, hargs _ hold, hvars _ hold, World.keptBut_mono (fun p hp => ⟨hp, ?_⟩) (hb.frame (· ∈ before)), fun _ => ?_⟩
  · rw [hps, List.mem_append] at hp
    exact Or.inr hp
  · obtain ⟨_, _, _, _, _, hz, hn⟩ := hW
    refine ⟨hok, _, _, ([] ++ pa) ++ pv, ⟨[] ++ pa, pv, trodAll_append (hargs _ (fun _ _ => rfl)) (hres _ _ _), hvars _ (fun _ _ => rfl), rfl, ?_, ?_⟩, ?_⟩
    · intro b off hp
      have hin : MemPlace.cell b off ∈ before := by rw [hps]; simpa using hp
      rw [hb.frozen (hlt _ hin)]
      exact hz b off hin
    · intro ha
      have := hn ha
      rw [hps] at this
      simpa using this
    · intro p hp _
      rw [hps]
      simpa using hp
end
theorem below_of_frame {w w' : World} {W : Nat → Prop} (h : FrameOk w W w') (hn : ∀ b, b < w.heap.size → ¬ W b) : Below w.heap.size w w' :=
  ⟨h.os, h.tape, h.output, h.size, fun k hk => h.block k hk (hn k hk)⟩
/-- A law over plain values. -/
theorem law_calls {P : Program} {f : FuncId} {args : List Value} {b : Bool} (ac : AC P f 0 args [] (.bool b) []) (hf : args.all flatB = true) (w : World) :
    Calls P f args.toArray w fun e w' => e = .returned (.bool b) ∧ Below w.heap.size w w' := by
  refine (ac (fun _ => none) w args.toArray (by simp) (fun j u hu => ⟨u, by simpa using hu, .of_only (only_flat (List.all_eq_true.1 hf u (List.mem_of_getElem? hu)))⟩)
    ⟨fun _ _ hk => (List.not_mem_nil hk).elim, fun _ _ _ _ _ _ _ hk => (List.not_mem_nil hk).elim⟩ (fun k hk => by omega) (fun _ _ => rfl)).mono ?_
  rintro e w' ⟨v', ρ', rfl, hv, _, _, _, hfr⟩
  cases hv
  exact ⟨rfl, below_of_frame hfr (fun b _ => by rintro ⟨k, b, sp, hm, _⟩; exact (List.not_mem_nil hm).elim)⟩
theorem in64_of_wf {x : Int} (h : (Lit.int .i64 x).wf = true) : -9223372036854775808 ≤ x ∧ x ≤ 9223372036854775807 := by
  simpa [Lit.wf, IntKind.min, IntKind.max, IntKind.signed, IntKind.bits] using h
end Go.Proofs.Ytigllakcfdoagaa.Am
