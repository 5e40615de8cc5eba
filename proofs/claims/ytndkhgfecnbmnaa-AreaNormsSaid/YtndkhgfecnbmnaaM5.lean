import Derived.RangeFuncNested
import Derived.RangeFuncBound
import Derived.RangeFuncCalls
import Derived.RangeFuncLeaves
import Derived.Shelf.Abstract
import Derived.Shelf.RegionOpen
import Derived.WalkKit
import Derived.OwnWalkIn
import Derived.TacticsInMore
import Derived.LoopNIn
import Derived.LoopIn
import Derived.Test.YtndkhgfecnbmnaaProg
import Derived.Test.YtndkhgfecnbmnaaM4
import Derived.Test.YtndkhgfecnbmnaaM3
import Derived.Test.YtndkhgfecnbmnaaM2
namespace Go.Proofs.Ytndkhgfecnbmnaa.Am
open Go Go.Proofs Go.RowKit Go.Shelf
attribute [local go_sem] Oper.semAt_some
/-- what has come when k rounds are over -/
def downto (len k : Nat) : List (Fin len) := ((List.finRange len).reverse).take k
theorem downto_len {len k : Nat} (h : k ≤ len) : (downto len k).length = k := by unfold downto; simp; omega
theorem downto_succ {len k j : Nat} (h : j + 1 + k = len) : downto len (k + 1) = downto len k ++ [⟨j, by omega⟩] := by
  unfold downto
  rw [List.take_add_one]
  congr 1
  have hk : k < (List.finRange len).reverse.length := by simp; omega
  rw [List.getElem?_eq_getElem hk]
  simp
  omega
set_option maxRecDepth 100000 in
set_option maxHeartbeats 2000000 in
theorem back1_in (F : Fence) (n : Nat) (h73 : F.fn 73) (hro : F.round = none) (hn : 1 ≤ n) (l Bs bo b off len cap : Nat) (vs : Fin len → Value) (hreach : len ≤ 100) (Kp : World → World → Prop)
    (hKt : ∀ {A B C : World}, Kp A B → Kp B C → Kp A C) (hKr : ∀ A, Kp A A) (hKc : ∀ {A B : World} {p : Addr}, Kp A B → p.block = Bs ∨ p.block = b → B.cell? p = A.cell? p) (J Jx : List (Fin len) → World → Prop)
    (hY : ∀ pre x W, J pre W → pre.length < len → YieldAt F (n - 1) Try.prog l #[.int .i64 ((x.val : Nat) : Int), vs x] W fun e W' =>
      (e = .returned (.bool true) ∧ J (pre ++ [x]) W' ∧ Kp W W') ∨ (e = .returned (.bool false) ∧ Jx (pre ++ [x]) W'))
    (W : World) (hBs : W.cell? ⟨Bs, bo, none⟩ = some (.slice (some ⟨b, off, none⟩) len cap)) (hc : ∀ j : Fin len, W.cell? ⟨b, off + j.val, none⟩ = some (vs j)) (h0 : J [] W) :
    CallsIn F n Try.prog 73 #[.func (.yield l) #[] #[], .pointer (some ⟨Bs, bo, none⟩)] W fun e W' => (∃ v, e = .returned v) ∧
      ((∃ ys, ys = downto len len ∧ J ys W') ∨ (∃ pre, (∃ k, k ≤ len ∧ pre = downto len k) ∧ Jx pre W')) := by
  refine callsIn_of_wp Try.func73 rfl h73 ?_ hro
  simp only [Try.ntmps73, List.size_toArray, List.length_cons, List.length_nil, Nat.reduceAdd, Nat.reduceSub, Array.replicate_succ, Array.replicate_zero, List.push_toArray, List.append_toArray, List.nil_append, List.cons_append]
  gi_wp2
  gi_loopw [3] (fun i wr => ∃ k : Nat, k ≤ len ∧ i = .int .i64 ((len : Int) - 1 - k) ∧ J (downto len k) wr ∧ Kp W wr)
    (fun i _ => (intOf i + 1).toNat)
  case atStart => exact ⟨0, Nat.zero_le _, by simp; try omega, h0, hKr W⟩
  case round =>
    obtain ⟨k, hk, rfl, hJs, hnx⟩ := hrel
    have hbx := (hKc (p := ⟨Bs, bo, none⟩) hnx (.inl rfl)).trans hBs
    by_cases hlt : k < len
    · obtain ⟨j, hj⟩ : ∃ j, j + 1 + k = len := ⟨len - 1 - k, by omega⟩
      obtain ⟨fn, tmps, assign, body, hy, hR⟩ := hY _ ⟨j, by omega⟩ wr hJs (by rw [downto_len hk]; exact hlt)
      dsimp only at hy
      have hcx : wr.cell? ⟨b, off + j, none⟩ = some (vs ⟨j, by omega⟩) := (hKc (p := ⟨b, off + j, none⟩) hnx (.inr rfl)).trans (hc ⟨j, by omega⟩)
      have e1 : (len : Int) - 1 - k = (j : Int) := by omega
      rw [e1]
      gi_wp2
      refine hR.mono ?_
      rintro e W3 (⟨rfl, hJ3, hk3⟩ | ⟨rfl, hJx3⟩)
      · gi_wp2
        go_roundw
        case rel => exact ⟨k + 1, by omega, by simp; try omega, by rw [downto_succ hj]; exact hJ3, hKt hnx hk3⟩
        case measure => first | (simp [intOf]; done) | (simp [intOf]; omega)
      · gi_wp2
        refine bodyPost_ret (results_none rfl _ _ _) rfl ?_
        exact ⟨⟨_, rfl⟩, .inr ⟨_, ⟨k + 1, by omega, (downto_succ hj).symm⟩, hJx3⟩⟩
    · obtain rfl : k = len := by omega
      have e1 : (k : Int) - 1 - k = -1 := by omega
      rw [e1]
      gi_wp2
      go_end0
      exact ⟨⟨_, rfl⟩, .inl ⟨_, rfl, hJs⟩⟩
theorem back_ok {len : Nat} (hreach : len ≤ 100) : ItOk Try.prog 73 len (downto len len) := fun Bs bo b off cap vs Kp hKt hKr hKc w hb1 hb2 hBs hc l J Jx W hW _ _ hY h0 =>
  (back1_in Fence.wide 2 trivial rfl (by decide) l Bs bo b off len cap vs hreach Kp hKt hKr hKc J Jx hY W ((hW.cell (p := ⟨Bs, bo, none⟩) hb1).trans hBs) (fun j => (hW.cell (p := ⟨b, off + j.val, none⟩) hb2).trans (hc j)) h0).mono
    fun e W' ⟨he, h⟩ => ⟨he, h.imp id (fun ⟨pre, _, h⟩ => ⟨pre, trivial, h⟩)⟩
theorem back_n1 : ItOk Try.prog 73 1 [⟨0, by decide⟩] := by
  have h := back_ok (len := 1) (by decide)
  rwa [show downto 1 1 = [⟨0, by decide⟩] by decide] at h
theorem back_n2 : ItOk Try.prog 73 2 [⟨1, by decide⟩, ⟨0, by decide⟩] := by
  have h := back_ok (len := 2) (by decide)
  rwa [show downto 2 2 = [⟨1, by decide⟩, ⟨0, by decide⟩] by decide] at h
theorem back_n3 : ItOk Try.prog 73 3 [⟨2, by decide⟩, ⟨1, by decide⟩, ⟨0, by decide⟩] := by
  have h := back_ok (len := 3) (by decide)
  rwa [show downto 3 3 = [⟨2, by decide⟩, ⟨1, by decide⟩, ⟨0, by decide⟩] by decide] at h
theorem back_enters : ∀ args w, (callFunc 73 args).run Try.prog w = .ok (.enter 73 args) w := enters_of Try.func73 (by kernel_rfl) rfl
end Go.Proofs.Ytndkhgfecnbmnaa.Am

namespace Go.Proofs.Ytndkhgfecnbmnaa.Am
open Go Go.RowKit
set_option linter.unusedVariables false
theorem weak_rr {C : Ctx} {S : St} (ren : List (Nat × Nat)) (T0 : List (Nat × Value)) (L0 : List (Nat × Blk)) (T : List (Nat × Value)) (L : List (Nat × Blk))
    (rT : RenT (renS ren) (keyB C.m L) T T0) (rL : RenH (renS ren) (keyB C.m L) L L0) (hc : renChk C.m ren (L.map (·.1)) = true := by kernel_rfl) (hT : T0.map (fun x => S.T x.1) = T0.map (fun x => some x.2) := by kernel_rfl)
    (hL : L0.map (fun x => S.H x.1) = L0.map (fun x => .live x.2) := by kernel_rfl) : Weak C S (mkSt C.m T L) := weak_ren ren (allT_of hT) (allH_of hL) rT rL hc
theorem acm_in {P : Program} {f : FuncId} {fn : Func} {m : Nat} {args : List Value} {pre post : List (Nat × Blk)} {v : Value} (hf : P.funcs[f]? = some fn)
    (h : ∀ w0 W pin, AX ⟨w0, W, fn.ntmps, m, pin, []⟩ P (sb fn 1) (mkSt m (argsT 0 args) pre) (AfterQ P fn v post w0 W m pin)) (hb : fn.body = some (bodyOf fn) := by kernel_rfl) (hn : Nat.ble args.length fn.ntmps = true := by kernel_rfl)
    (hpo : (post.all fun x => x.2.own) = true := by kernel_rfl) : AC P f m args pre v post := acm_intro hf hb hn hpo h
theorem after_of {P : Program} {fn : Func} {v : Value} {post : List (Nat × Blk)} {w0 w1 : World} {W : Nat → Prop} {m D : Nat} {pin : Ren} (hf : FrameOk w0 W w1) (hD : w1.heap[D]? = some (.deferred (some []))) (hs : w0.heap.size ≤ D) (e : Exit) (a : Act) (w : World)
    (h : Lift ⟨w1, fun b => (W b ∨ w0.heap.size ≤ b) ∧ b ≠ D, fn.ntmps, m, pin, [mark D]⟩ (EndQ P fn v post) e a w) : AfterQ P fn v post w0 W m pin e a w := by
  obtain ⟨ρ, S, h1, h2⟩ := h
  exact ⟨w1, _, D, ρ, S, hf, fun b h => h, hD, hs, h2, h1⟩
theorem ax_loop {C : Ctx} {P : Program} {f : Func} {n : Nat} {S : St} {Q : Exit → Act → World → Prop} (x y id : Nat) (rf : Code) (S1 : St) (h : AW C P (sb f x) S (fun e S' => e = .normal ∧ Weak C S' S1))
    (k : ∀ ρ a w, Rel C ρ S1 a w → rf.wp P (fun e a w => e = .normal ∧ (sb f y).wp P Q a w) a w) (hk : sb f n = .seq (.seq (sb f x) (.block id rf)) (sb f y) := by kernel_rfl) : AX C P (sb f n) S Q := by
  rw [hk]
  intro ρ a w hr
  refine wp_seq (wp_seq (wp_mono (h ρ a w hr) ?_))
  rintro e a' w' ⟨ρ', S', ⟨rfl, h1⟩, h2⟩
  obtain ⟨ρ2, h3⟩ := h1 ρ' a' w' h2
  refine wp_block (wp_mono (k ρ2 a' w' h3) ?_)
  rintro e a2 w2 ⟨rfl, h4⟩
  exact h4
def ltB (m : Nat) (L : List (Nat × Blk)) : Bool := L.all fun x => Nat.blt x.1 m
def hasB (L : List (Nat × Blk)) (k : Nat) : Bool := (L.map (·.1)).any (Nat.beq k)
theorem blt_of {a b : Nat} (h : Nat.blt a b = true) : a < b := Nat.le_of_ble_eq_true h
theorem hasB_iff {L : List (Nat × Blk)} {k : Nat} : hasB L k = true ↔ k ∈ L.map (·.1) := any_beq
theorem closed_lt {m m' : Nat} {T : List (Nat × Value)} {L : List (Nat × Blk)} (h : closedB m T L = true) (hm : m ≤ m') (hL : ltB m' L = true) :
    (∀ t v, (t, v) ∈ T → Only (· < m') v) ∧ (∀ k b, (k, b) ∈ L → ∀ u, u ∈ b.cells → Only (· < m') u) := by
  have key : ∀ k, keyB m L k → k < m' := fun k hk => by
    unfold keyB at hk
    rw [Bool.or_eq_true] at hk
    rcases hk with hk | hk
    · exact Nat.lt_of_lt_of_le (blt_of hk) hm
    · obtain ⟨x, hx, rfl⟩ := List.mem_map.1 (any_beq.1 hk)
      exact blt_of (List.all_eq_true.1 hL x hx)
  unfold closedB at h
  rw [Bool.and_eq_true] at h
  exact ⟨fun t v hm' => (valsB_only (List.all_eq_true.1 h.1 (t, v) hm')).mono key, fun k b hm' u hu => (valsB_only (List.all_eq_true.1 (List.all_eq_true.1 h.2 (k, b) hm') u hu)).mono key⟩
theorem wp_range' {C : Ctx} {P : Program} {ρs : Ren} {a : Act} {ws : World} (T0 : List (Nat × Value)) (L0 lent Lf Lold : List (Nat × Blk)) (Tk : List (Nat × Value)) (m' g p0 p1 d gf len : Nat) {oa : Oper} {ida : Nat} {body : Code} {fin_ : List (Fin len)}
    (Lr : List (Fin len) → List (Nat × Blk)) (us : Fin len → Value) (ki kr ko co : Nat) (bi br : Blk) {Q : Act → World → Prop} (hds : C.ds = []) (hr : Rel C ρs (mkSt C.m T0 L0) a ws)
    (hit : ItOk P gf len fin_) (eg : ∀ args w, (callFunc gf args).run P w = .ok (.enter gf args) w)
    (hbody : ∀ (w0 : World) (W : Nat → Prop) (pin : Ren) (pre : List (Fin len)) (x : Fin len), pre.length < len → AR ⟨w0, W, C.n, m', pin, []⟩ P body (mkSt m' ((d, us x) :: Tk) (Lr pre)) (fun S' => Weak ⟨w0, W, C.n, m', pin, []⟩ S' (mkSt m' [] (Lr (pre ++ [x])))))
    (hQ : ∀ (D : Nat) (ρ' : Ren) (w1 : World), FrameOk C.w0 C.W w1 → w1.heap[D]? = some (.deferred (some [])) → C.w0.heap.size ≤ D → Rel ⟨w1, fun b => (C.W b ∨ C.w0.heap.size ≤ b) ∧ b ≠ D, C.n, C.m, C.pin, [mark D]⟩ ρ' (mkSt C.m T0 (Lf ++ Lold)) { a with defers := [mark D] } w1 → Q { a with defers := [mark D] } w1)
    (hLr0 : Lr [] = lent) (hLr1 : Lr fin_ = Lf)
    (ho : oa.op = .assign (.tmp p1)) (hod : oa.dst = some d) (hog : oa.guard = none) (hbi : bi.cells = [.slice (some ⟨kr, ko, none⟩) len co]) (hbr : ∀ j : Fin len, br.cells[ko + j.val]? = some (us j))
    (hp : (Nat.blt p0 C.n && (Nat.blt p1 C.n && (Nat.blt d C.n && (!(Nat.beq p0 p1) && (!(Nat.beq d p0) && !(Nat.beq d p1)))))) = true := by kernel_rfl) (hpos : Nat.blt 0 len = true := by kernel_rfl) (hm : Nat.ble C.m m' = true := by kernel_rfl)
    (hg : (mkSt C.m T0 L0).T g = some (.func (.func gf) #[] #[.pointer (some ⟨ki, 0, none⟩)]) := by kernel_rfl) (hki : (mkSt C.m T0 L0).H ki = .live bi := by kernel_rfl) (hkr : (mkSt C.m T0 L0).H kr = .live br := by kernel_rfl)
    (hk2 : (!(hasB lent ki) && !(hasB lent kr)) = true := by kernel_rfl) (hmap : ((List.range m').all fun k => Nat.blt k C.m || hasB L0 k) = true := by kernel_rfl) (hlt : ltB m' L0 = true := by kernel_rfl) (hcl : closedB C.m T0 L0 = true := by kernel_rfl)
    (hTk : Tk.map (fun x => (mkSt C.m T0 L0).T x.1) = Tk.map (fun x => some x.2) := by kernel_rfl) (hTkd : (Tk.all fun x => !(Nat.beq x.1 p0) && (!(Nat.beq x.1 p1) && !(Nat.beq x.1 d))) = true := by kernel_rfl)
    (hL : lent.map (fun x => (mkSt C.m T0 L0).H x.1) = lent.map (fun x => .live x.2) := by kernel_rfl) (hlo : (lent.all fun x => x.2.own) = true := by kernel_rfl)
    (hLf : Lf.map (fun x => (mkSt m' Tk Lf).H x.1) = Lf.map (fun x => .live x.2) := by kernel_rfl) (hLo : (Lf.all fun x => x.2.own) = true := by kernel_rfl) (hLk : (Lf.all fun x => !(Nat.blt x.1 m') || hasB lent x.1) = true := by kernel_rfl)
    (hkL : (lent.all fun x => hasB Lf x.1) = true := by kernel_rfl) (hold : Lold.map (fun x => (mkSt C.m T0 L0).H x.1) = Lold.map (fun x => .live x.2) := by kernel_rfl) (holdk : (Lold.all fun x => !(hasB lent x.1)) = true := by kernel_rfl)
    (hL1k : ((List.range m').all fun k => Nat.blt k C.m || hasB (Lf ++ Lold) k) = true := by kernel_rfl) : (Code.rangeFunc (.tmp g) #[p0, p1] (.region ida #[oa] false) body).wp P (fun e a w => e = .normal ∧ Q a w) a ws := by
  have nb : ∀ {a b : Nat}, (!(Nat.beq a b)) = true → a ≠ b := fun h e => by subst e; rw [show Nat.beq _ _ = true from Nat.beq_refl _] at h; cases h
  have nh : ∀ {L : List (Nat × Blk)} {k : Nat}, (!(hasB L k)) = true → k ∉ L.map (·.1) := fun h e => by rw [hasB_iff.2 e] at h; cases h
  have hm' := Nat.le_of_ble_eq_true hm
  obtain ⟨cT, cL⟩ := closed_lt hcl hm' hlt
  simp only [Bool.and_eq_true] at hp hk2
  have key : ∀ (L : List (Nat × Blk)), ((List.range m').all fun k => Nat.blt k C.m || hasB L k) = true → ∀ k, k < m' → k < C.m ∨ k ∈ L.map (·.1) := fun L h k hk => by
    have := List.all_eq_true.1 h k (List.mem_range.2 hk)
    rw [Bool.or_eq_true] at this
    exact this.imp blt_of hasB_iff.1
  subst hLr1
  refine wp_range (len := len) (L0 := L0) (L1 := Lr fin_ ++ Lold) (lent := lent) (Tk := Tk) (m' := m') (fin_ := fin_) (Lr := Lr) (us := us) (ki := ki) (kr := kr) (ko := ko) (co := co) (bi := bi) (br := br) hds hr hit eg (blt_of hpos) hg hki hbi hkr hbr (nh hk2.1) (nh hk2.2) ho hod hog
    ⟨blt_of hp.1, blt_of hp.2.1, blt_of hp.2.2.1, nb hp.2.2.2.1, nb hp.2.2.2.2.1, nb hp.2.2.2.2.2⟩ hm' (fun k hk => ?_) (fun k hk => ?_) (allT_of hTk) (fun t v h => ?_) (allH_of hL) (fun k b h => List.all_eq_true.1 hlo (k, b) h) hLr0 cT cL hbody (allH_of hLf)
    (fun k b h => List.all_eq_true.1 hLo (k, b) h) (fun k b h hk => ?_) (fun k b0 h => ?_) (fun k b h => ?_) (fun k hk hn => ?_) (fun D ρ' w1 h1 h2 h3 h4 => ⟨rfl, hQ D ρ' w1 h1 h2 (Nat.le_trans hr.frame.size h3) h4⟩)
  · rcases key L0 hmap k hk with h | h
    · exact .inl h
    · obtain ⟨b, hb⟩ := ofH_key (d := base C.m k) h; exact .inr ⟨b, hb⟩
  · show ofH (base C.m k) L0 k = .fresh
    rw [ofH_nokey (fun h => by obtain ⟨x, hx, rfl⟩ := List.mem_map.1 h; have := blt_of (List.all_eq_true.1 hlt x hx); omega)]
    unfold base
    rw [show Nat.blt k C.m = false by cases hb : Nat.blt k C.m with | false => rfl | true => exact absurd (blt_of hb) (by omega)]; rfl
  · have := List.all_eq_true.1 hTkd (t, v) h
    simp only [Bool.and_eq_true] at this
    exact ⟨nb this.1, nb this.2.1, nb this.2.2⟩
  · have := List.all_eq_true.1 hLk (k, b) h
    rw [Bool.or_eq_true] at this
    rcases this with h1 | h1
    · rw [show Nat.blt k m' = true from Nat.ble_eq_true_of_le hk] at h1; cases h1
    · obtain ⟨x, hx, hxk⟩ := List.mem_map.1 (hasB_iff.1 h1); obtain ⟨k2, b2⟩ := x; cases hxk; exact ⟨b2, hx⟩
  · have := List.all_eq_true.1 hkL (k, b0) h
    obtain ⟨x, hx, hxk⟩ := List.mem_map.1 (hasB_iff.1 this); obtain ⟨k2, b2⟩ := x; cases hxk; exact ⟨b2, hx⟩
  · rcases List.mem_append.1 h with h1 | h1
    · exact .inl h1
    · exact .inr ⟨(allH_of hold).mem h1, nh (List.all_eq_true.1 holdk (k, b) h1)⟩
  · refine ⟨?_, fun h => hn (by rw [List.map_append]; exact List.mem_append_left _ h)⟩
    rcases Nat.lt_or_ge k m' with h | h
    · rcases key _ hL1k k h with h1 | h1
      · omega
      · exact absurd h1 hn
    · exact h
end Go.Proofs.Ytndkhgfecnbmnaa.Am

namespace Go.Proofs.Ytndkhgfecnbmnaa.Am
open Go Go.Proofs
set_option maxRecDepth 100000
set_option maxHeartbeats 4000000
set_option linter.unusedVariables false
set_option linter.unusedSimpArgs false
theorem has_own (ps : List (Int × Int)) (hz : ps.length ≤ 9223372036854775807) (x y : Int) :
    AC Try.prog 11 1 ([sV 0 ps.length, .agg #[.int .i64 x, .int .i64 y]]) [(0, (pB ps))] (.int .i64 (Sp.hasF ps (Sp.lim 1048576 x) (Sp.lim 1048576 y) 0 (-1))) [(0, (pB ps))] := by
  have qx := Sp.lim_bd (m := 1048576) (by decide) x; have qy := Sp.lim_bd (m := 1048576) (by decide) y
  refine ac_in Try.func11 (fun w0 W pin => ?_)
  refine aw_p 3 (
    .a 2 1 <| .nil _ _) ?_
  refine aw_p 7 (
    .a 1 2 <| .p (does_c (clamp_ok x y)) <| .a 1 2 <| .nil _ _) ?_
  refine aw_p 15 (
    .a 1 2 <| .nil _ _) ?_
  refine aw_sq 30 31 ?_
  refine aw_p 61 (
    .a 3 2 <| .nil _ _) ?_
  refine aw_bl 0 123 ?_
  refine aw_lp 247 ?_
  refine al_w [(0, sV 0 ps.length), (3, .pointer (some ⟨1, 0, none⟩)), (5, .int .i64 (-1)), (12, .int .i64 ((ps.length : Nat) : Int)), (13, .int .i64 ((0 : Nat) : Int))] [(0, (pB ps)), (1, ⟨[.int .i64 (Sp.lim 1048576 x), .int .i64 (Sp.lim 1048576 y)], 28, true, 2⟩)] ?_ (hc := (by simp [closedB, valsB, valB, List.all_eq_true, List.mem_flatMap, List.mem_range, List.mem_map, i64v, ptc, flat1]; try (intros; simp [valsB, valB, flat1]); try decide))
  refine al_ind (fun i : Nat × Int => (fun (i : Nat) (out : Int) => mkSt 1 [(0, sV 0 ps.length), (3, .pointer (some ⟨1, 0, none⟩)), (5, .int .i64 out), (12, .int .i64 ((ps.length : Nat) : Int)), (13, .int .i64 ((i : Nat) : Int))] [(0, (pB ps)), (1, ⟨[.int .i64 (Sp.lim 1048576 x), .int .i64 (Sp.lim 1048576 y)], 28, true, 2⟩)]) i.1 i.2) (fun i : Nat × Int => (fun (i : Nat) (out : Int) => (i ≤ ps.length) ∧ (-1 ≤ out ∧ out ≤ 1) ∧ (Sp.hasF ps (Sp.lim 1048576 x) (Sp.lim 1048576 y) i out = Sp.hasF ps (Sp.lim 1048576 x) (Sp.lim 1048576 y) 0 (-1))) i.1 i.2) (fun i : Nat × Int => (fun (i : Nat) (out : Int) => ps.length - i) i.1 i.2) (fun i hi1 ih1 => ?_) (0, (-1)) (show (0 ≤ ps.length) ∧ (-1 ≤ (-1) ∧ (-1) ≤ 1) ∧ (Sp.hasF ps (Sp.lim 1048576 x) (Sp.lim 1048576 y) 0 (-1) = Sp.hasF ps (Sp.lim 1048576 x) (Sp.lim 1048576 y) 0 (-1)) from ⟨by omega, by omega, by rfl⟩)
  obtain ⟨i, out⟩ := i
  have hi1' : (i ≤ ps.length) ∧ (-1 ≤ out ∧ out ≤ 1) ∧ (Sp.hasF ps (Sp.lim 1048576 x) (Sp.lim 1048576 y) i out = Sp.hasF ps (Sp.lim 1048576 x) (Sp.lim 1048576 y) 0 (-1)) := hi1
  obtain ⟨hi, ho, hh⟩ := hi1'
  show AL _ _ _ (mkSt 1 [(0, sV 0 ps.length), (3, .pointer (some ⟨1, 0, none⟩)), (5, .int .i64 out), (12, .int .i64 ((ps.length : Nat) : Int)), (13, .int .i64 ((i : Nat) : Int))] [(0, (pB ps)), (1, ⟨[.int .i64 (Sp.lim 1048576 x), .int .i64 (Sp.lim 1048576 y)], 28, true, 2⟩)]) _
  refine al_round ?_
  refine aw_p 495 (
    .a 1 2 <| .nil _ _) ?_
  refine aw_sq 990 991 ?_
  refine aw_cd 1980 1981 (decide (((i : Nat) : Int) < ((ps.length : Nat) : Int))) (fun h1 => ?_) (fun h1 => ?_)
  · have h1p : ((((i : Nat) : Int) < ((ps.length : Nat) : Int))) := by first | (simpa using h1) | (have h1q := h1; simp at h1q; omega) | (have h1q := bx1 h1; simp at h1q; omega)
    have hil : i < ps.length := by omega
    obtain ⟨j, hj⟩ : ∃ j, (i + 1) % ps.length = j := ⟨_, rfl⟩
    have hjl : j < ps.length := hj ▸ Nat.mod_lt _ (by omega)
    have bi1 := Sp.lim_bd (m := 1048576) (by decide) (ps.getD i (0, 0)).1; have bi2 := Sp.lim_bd (m := 1048576) (by decide) (ps.getD i (0, 0)).2; have bj1 := Sp.lim_bd (m := 1048576) (by decide) (ps.getD j (0, 0)).1; have bj2 := Sp.lim_bd (m := 1048576) (by decide) (ps.getD j (0, 0)).2
    refine aw_sk ?_
    refine then_normal ?_
    refine aw_sq 1982 1983 ?_
    refine aw_bl 1 3965 ?_
    refine aw_p 7931 (
      .a 2 2 <| .nil _ _) ?_
    refine aw_d 15863 (
      .a 2 2 <| .p (does_indexSlice (t := 30) (x := .tmp 16) (y := .tmp 17) (k := 0) (off := 0) (n := ps.length) (c := 0) (z := 2) (kd := .i64) (j := ((i : Nat) : Int)) (by kernel_rfl) (by kernel_rfl) (by kernel_rfl) (by kernel_rfl) (by kernel_rfl) (by omega) (by omega)) <|
      .p (does_load (t := 28) (x := .tmp 18) (k := 0) (off := (0 + (((i : Nat) : Int)).toNat * 2)) (b := (pB ps)) (v := .agg #[.int .i64 ((ps.getD i (0, 0)).1), .int .i64 ((ps.getD i (0, 0)).2)]) (by kernel_rfl) (by kernel_rfl) (by kernel_rfl) (ldV_pair (j := i) (by kernel_rfl) (by kernel_rfl) (by omega) (by omega))) <|
      .p (does_c (clamp_ok ((ps.getD i (0, 0)).1) ((ps.getD i (0, 0)).2))) <| .a 2 2 <| .p (does_i (((i : Nat) : Int) + 1) (wrap_i64 (by omega) (by omega)) .i64) <| .a 2 2 <|
      .p (does_int (n' := ((j : Nat) : Int)) (does_rem (t := 3) (t2 := 3) (x := .tmp 23) (y := .tmp 25) (k := .i64) (a := (((i : Nat) : Int) + 1)) (b := ((ps.length : Nat) : Int)) (by kernel_rfl) (by kernel_rfl) (by kernel_rfl) (by omega)) ((show (Int.tmod (((i : Nat) : Int) + 1) ((ps.length : Nat) : Int)) = ((j : Nat) : Int) from (by rw [← hj]; exact rfl)))) <|
      .p (does_indexSlice (t := 30) (x := .tmp 21) (y := .tmp 26) (k := 0) (off := 0) (n := ps.length) (c := 0) (z := 2) (kd := .i64) (j := ((j : Nat) : Int)) (by kernel_rfl) (by kernel_rfl) (by kernel_rfl) (by kernel_rfl) (by kernel_rfl) (by omega) (by omega)) <|
      .p (does_load (t := 28) (x := .tmp 27) (k := 0) (off := (0 + (((j : Nat) : Int)).toNat * 2)) (b := (pB ps)) (v := .agg #[.int .i64 ((ps.getD j (0, 0)).1), .int .i64 ((ps.getD j (0, 0)).2)]) (by kernel_rfl) (by kernel_rfl) (by kernel_rfl) (ldV_pair (j := j) (by kernel_rfl) (by kernel_rfl) (by omega) (by omega))) <|
      .p (does_c (clamp_ok ((ps.getD j (0, 0)).1) ((ps.getD j (0, 0)).2))) <| .a 4 2 <| .nil _ _) ?_
    refine aw_sq 31726 31727 ?_
    refine aw_p 63453 (
      .a 3 4 <|
      .p (does_c (on_in (Sp.lim 1048576 ((ps.getD i (0, 0)).1)) (Sp.lim 1048576 ((ps.getD i (0, 0)).2)) (Sp.lim 1048576 ((ps.getD j (0, 0)).1)) (Sp.lim 1048576 ((ps.getD j (0, 0)).2)) (Sp.lim 1048576 x) (Sp.lim 1048576 y) (by omega) (by omega) (by omega) (by omega) (by omega) (by omega) (by omega) (by omega) (by omega) (by omega) (by omega) (by omega))) <| .nil _ _) ?_
    refine aw_cd 126906 126907 (Sp.onb (Sp.lim 1048576 ((ps.getD i (0, 0)).1)) (Sp.lim 1048576 ((ps.getD i (0, 0)).2)) (Sp.lim 1048576 ((ps.getD j (0, 0)).1)) (Sp.lim 1048576 ((ps.getD j (0, 0)).2)) (Sp.lim 1048576 x) (Sp.lim 1048576 y)) (fun h2 => ?_) (fun h2 => ?_)
    · refine aw_p 253813 (
        .a 1 4 <| .nil _ _) ?_
      refine aw_rt ?_
      refine then_ret ?_
      refine block_ret ?_
      refine then_ret ?_
      refine then_ret ?_
      refine block_ret ?_
      refine then_ret ?_
      exact en_ret [.int .i64 0] (show (.int .i64 0 : Value) = (.int .i64 (Sp.hasF ps (Sp.lim 1048576 x) (Sp.lim 1048576 y) 0 (-1))) from (congrArg (Value.int .i64) (show 0 = (Sp.hasF ps (Sp.lim 1048576 x) (Sp.lim 1048576 y) 0 (-1)) from by (first | exact (by rw [← hh, Sp.hasF_on hil hj (by assumption)]) | exact (by rw [← hh, Sp.hasF_end hge])))))
    · refine aw_sk ?_
      refine then_normal ?_
      refine aw_sq 63454 63455 ?_
      refine aw_p 126909 (
        .a 5 4 <| .nil _ _) ?_
      refine aw_cd 253818 253819 (decide ((Sp.lim 1048576 ((ps.getD i (0, 0)).2)) > (Sp.lim 1048576 ((ps.getD j (0, 0)).2)))) (fun h3 => ?_) (fun h3 => ?_)
      · have h3p : (((Sp.lim 1048576 ((ps.getD i (0, 0)).2)) > (Sp.lim 1048576 ((ps.getD j (0, 0)).2)))) := by first | (simpa using h3) | (have h3q := h3; simp at h3q; omega) | (have h3q := bx1 h3; simp at h3q; omega)
        refine aw_p1 (
          .a 4 4 <| .nil _ _) ?_
        refine then_normal ?_
        rcases Bool.eq_false_or_eq_true (decide ((Sp.lim 1048576 ((ps.getD j (0, 0)).2)) < (Sp.lim 1048576 y))) with h4 | h4
        · have h4p : (((Sp.lim 1048576 ((ps.getD j (0, 0)).2)) < (Sp.lim 1048576 y))) := by first | (simpa using h4) | (have h4q := h4; simp at h4q; omega) | (have h4q := bx1 h4; simp at h4q; omega)
          rcases Bool.eq_false_or_eq_true (decide ((Sp.lim 1048576 y) ≤ (Sp.lim 1048576 ((ps.getD i (0, 0)).2)))) with h5 | h5
          · have h5p : (((Sp.lim 1048576 y) ≤ (Sp.lim 1048576 ((ps.getD i (0, 0)).2)))) := by first | (simpa using h5) | (have h5q := h5; simp at h5q; omega) | (have h5q := bx1 h5; simp at h5q; omega)
            refine aw_p 126911 (
              .a 4 4 <| .p (does_b true (h4)) <| .a 5 4 <| .p (does_b true (h5)) <| .a 5 4 <|
              .p (does_c (turn_in (Sp.lim 1048576 ((ps.getD j (0, 0)).1)) (Sp.lim 1048576 ((ps.getD j (0, 0)).2)) (Sp.lim 1048576 ((ps.getD i (0, 0)).1)) (Sp.lim 1048576 ((ps.getD i (0, 0)).2)) (Sp.lim 1048576 x) (Sp.lim 1048576 y) (by omega) (by omega) (by omega) (by omega) (by omega) (by omega) (by omega) (by omega) (by omega) (by omega) (by omega) (by omega))) <|
              .a 2 4 <| .nil _ _) ?_
            refine aw_cd 253822 253823 (decide ((Sp.cmp (Sp.crs (Sp.lim 1048576 ((ps.getD j (0, 0)).1)) (Sp.lim 1048576 ((ps.getD j (0, 0)).2)) (Sp.lim 1048576 ((ps.getD i (0, 0)).1)) (Sp.lim 1048576 ((ps.getD i (0, 0)).2)) (Sp.lim 1048576 x) (Sp.lim 1048576 y)) 0) > 0)) (fun h6 => ?_) (fun h6 => ?_)
            · have h6p : (((Sp.cmp (Sp.crs (Sp.lim 1048576 ((ps.getD j (0, 0)).1)) (Sp.lim 1048576 ((ps.getD j (0, 0)).2)) (Sp.lim 1048576 ((ps.getD i (0, 0)).1)) (Sp.lim 1048576 ((ps.getD i (0, 0)).2)) (Sp.lim 1048576 x) (Sp.lim 1048576 y)) 0) > 0)) := by first | (simpa using h6) | (have h6q := h6; simp at h6q; omega) | (have h6q := bx1 h6; simp at h6q; omega)
              refine aw_p1 (
                .a 1 4 <| .p (does_i (0 - out) (wrap_i64 (by omega) (by omega)) .i64) <| .a 1 4 <| .nil _ _) ?_
              refine block_normal ?_
              refine then_normal ?_
              refine aw_p1 (
                .p (does_i (((i : Nat) : Int) + 1) (wrap_i64 (by omega) (by omega)) .i64) <| .a 1 4 <| .nil _ _) ?_
              refine then_normal ?_
              refine al_w [(0, sV 0 ps.length), (3, .pointer (some ⟨1, 0, none⟩)), (5, .int .i64 (0 - out)), (12, .int .i64 ((ps.length : Nat) : Int)), (13, .int .i64 (((i + 1) : Nat) : Int))] [(0, (pB ps)), (1, ⟨[.int .i64 (Sp.lim 1048576 x), .int .i64 (Sp.lim 1048576 y)], 28, true, 2⟩)] ?_ (hc := (by simp [closedB, valsB, valB, List.all_eq_true, List.mem_flatMap, List.mem_range, List.mem_map, i64v, ptc, flat1]; try (intros; simp [valsB, valB, flat1]); try decide))
              exact ih1 ((i + 1), (0 - out)) (show ((i + 1) ≤ ps.length) ∧ (-1 ≤ (0 - out) ∧ (0 - out) ≤ 1) ∧ (Sp.hasF ps (Sp.lim 1048576 x) (Sp.lim 1048576 y) (i + 1) (0 - out) = Sp.hasF ps (Sp.lim 1048576 x) (Sp.lim 1048576 y) 0 (-1)) from ⟨by omega, by omega, by (rw [← hh]; first | exact Sp.hasF_no hil hj (by assumption) (Sp.crX_d1 (by assumption) (by assumption)) | exact Sp.hasF_no hil hj (by assumption) (Sp.crX_d2 (by assumption) (by assumption) (by assumption)) | exact Sp.hasF_no hil hj (by assumption) (Sp.crX_d3 (by assumption) (by assumption) (by assumption) (by assumption)) | exact Sp.hasF_cr hil hj (by assumption) (Sp.crX_d4 (by assumption) (by assumption) (by assumption) (by assumption)) | exact Sp.hasF_no hil hj (by assumption) (Sp.crX_u1 (by assumption) (by assumption)) | exact Sp.hasF_no hil hj (by assumption) (Sp.crX_u2 (by assumption) (by assumption) (by assumption)) | exact Sp.hasF_no hil hj (by assumption) (Sp.crX_u3 (by assumption) (by assumption) (by assumption) (by assumption)) | exact Sp.hasF_cr hil hj (by assumption) (Sp.crX_u4 (by assumption) (by assumption) (by assumption) (by assumption)))⟩) (show ps.length - (i + 1) < ps.length - i from by omega)
            · have h6p : ¬ (((Sp.cmp (Sp.crs (Sp.lim 1048576 ((ps.getD j (0, 0)).1)) (Sp.lim 1048576 ((ps.getD j (0, 0)).2)) (Sp.lim 1048576 ((ps.getD i (0, 0)).1)) (Sp.lim 1048576 ((ps.getD i (0, 0)).2)) (Sp.lim 1048576 x) (Sp.lim 1048576 y)) 0) > 0)) := by first | (simpa using h6) | (have h6q := h6; simp at h6q; omega) | (have h6q := bx2 h6; simp at h6q; omega)
              refine aw_sk ?_
              refine block_normal ?_
              refine then_normal ?_
              refine aw_p1 (
                .p (does_i (((i : Nat) : Int) + 1) (wrap_i64 (by omega) (by omega)) .i64) <| .a 1 4 <| .nil _ _) ?_
              refine then_normal ?_
              refine al_w [(0, sV 0 ps.length), (3, .pointer (some ⟨1, 0, none⟩)), (5, .int .i64 out), (12, .int .i64 ((ps.length : Nat) : Int)), (13, .int .i64 (((i + 1) : Nat) : Int))] [(0, (pB ps)), (1, ⟨[.int .i64 (Sp.lim 1048576 x), .int .i64 (Sp.lim 1048576 y)], 28, true, 2⟩)] ?_ (hc := (by simp [closedB, valsB, valB, List.all_eq_true, List.mem_flatMap, List.mem_range, List.mem_map, i64v, ptc, flat1]; try (intros; simp [valsB, valB, flat1]); try decide))
              exact ih1 ((i + 1), out) (show ((i + 1) ≤ ps.length) ∧ (-1 ≤ out ∧ out ≤ 1) ∧ (Sp.hasF ps (Sp.lim 1048576 x) (Sp.lim 1048576 y) (i + 1) out = Sp.hasF ps (Sp.lim 1048576 x) (Sp.lim 1048576 y) 0 (-1)) from ⟨by omega, by omega, by (rw [← hh]; first | exact Sp.hasF_no hil hj (by assumption) (Sp.crX_d1 (by assumption) (by assumption)) | exact Sp.hasF_no hil hj (by assumption) (Sp.crX_d2 (by assumption) (by assumption) (by assumption)) | exact Sp.hasF_no hil hj (by assumption) (Sp.crX_d3 (by assumption) (by assumption) (by assumption) (by assumption)) | exact Sp.hasF_cr hil hj (by assumption) (Sp.crX_d4 (by assumption) (by assumption) (by assumption) (by assumption)) | exact Sp.hasF_no hil hj (by assumption) (Sp.crX_u1 (by assumption) (by assumption)) | exact Sp.hasF_no hil hj (by assumption) (Sp.crX_u2 (by assumption) (by assumption) (by assumption)) | exact Sp.hasF_no hil hj (by assumption) (Sp.crX_u3 (by assumption) (by assumption) (by assumption) (by assumption)) | exact Sp.hasF_cr hil hj (by assumption) (Sp.crX_u4 (by assumption) (by assumption) (by assumption) (by assumption)))⟩) (show ps.length - (i + 1) < ps.length - i from by omega)
          · have h5p : ¬ (((Sp.lim 1048576 y) ≤ (Sp.lim 1048576 ((ps.getD i (0, 0)).2)))) := by first | (simpa using h5) | (have h5q := h5; simp at h5q; omega) | (have h5q := bx2 h5; simp at h5q; omega)
            refine aw_p 126911 (
              .a 4 4 <| .p (does_b true (h4)) <| .a 5 4 <| .p (does_b false (h5)) <| .a 8 4 <| .nil _ _) ?_
            refine aw_fl 253823 ?_
            refine aw_sk ?_
            refine block_normal ?_
            refine then_normal ?_
            refine aw_p1 (
              .p (does_i (((i : Nat) : Int) + 1) (wrap_i64 (by omega) (by omega)) .i64) <| .a 1 4 <| .nil _ _) ?_
            refine then_normal ?_
            refine al_w [(0, sV 0 ps.length), (3, .pointer (some ⟨1, 0, none⟩)), (5, .int .i64 out), (12, .int .i64 ((ps.length : Nat) : Int)), (13, .int .i64 (((i + 1) : Nat) : Int))] [(0, (pB ps)), (1, ⟨[.int .i64 (Sp.lim 1048576 x), .int .i64 (Sp.lim 1048576 y)], 28, true, 2⟩)] ?_ (hc := (by simp [closedB, valsB, valB, List.all_eq_true, List.mem_flatMap, List.mem_range, List.mem_map, i64v, ptc, flat1]; try (intros; simp [valsB, valB, flat1]); try decide))
            exact ih1 ((i + 1), out) (show ((i + 1) ≤ ps.length) ∧ (-1 ≤ out ∧ out ≤ 1) ∧ (Sp.hasF ps (Sp.lim 1048576 x) (Sp.lim 1048576 y) (i + 1) out = Sp.hasF ps (Sp.lim 1048576 x) (Sp.lim 1048576 y) 0 (-1)) from ⟨by omega, by omega, by (rw [← hh]; first | exact Sp.hasF_no hil hj (by assumption) (Sp.crX_d1 (by assumption) (by assumption)) | exact Sp.hasF_no hil hj (by assumption) (Sp.crX_d2 (by assumption) (by assumption) (by assumption)) | exact Sp.hasF_no hil hj (by assumption) (Sp.crX_d3 (by assumption) (by assumption) (by assumption) (by assumption)) | exact Sp.hasF_cr hil hj (by assumption) (Sp.crX_d4 (by assumption) (by assumption) (by assumption) (by assumption)) | exact Sp.hasF_no hil hj (by assumption) (Sp.crX_u1 (by assumption) (by assumption)) | exact Sp.hasF_no hil hj (by assumption) (Sp.crX_u2 (by assumption) (by assumption) (by assumption)) | exact Sp.hasF_no hil hj (by assumption) (Sp.crX_u3 (by assumption) (by assumption) (by assumption) (by assumption)) | exact Sp.hasF_cr hil hj (by assumption) (Sp.crX_u4 (by assumption) (by assumption) (by assumption) (by assumption)))⟩) (show ps.length - (i + 1) < ps.length - i from by omega)
        · have h4p : ¬ (((Sp.lim 1048576 ((ps.getD j (0, 0)).2)) < (Sp.lim 1048576 y))) := by first | (simpa using h4) | (have h4q := h4; simp at h4q; omega) | (have h4q := bx2 h4; simp at h4q; omega)
          refine aw_p 126911 (
            .a 4 4 <| .p (does_b false (h4)) <| .a 14 4 <| .nil _ _) ?_
          refine aw_fl 253823 ?_
          refine aw_sk ?_
          refine block_normal ?_
          refine then_normal ?_
          refine aw_p1 (
            .p (does_i (((i : Nat) : Int) + 1) (wrap_i64 (by omega) (by omega)) .i64) <| .a 1 4 <| .nil _ _) ?_
          refine then_normal ?_
          refine al_w [(0, sV 0 ps.length), (3, .pointer (some ⟨1, 0, none⟩)), (5, .int .i64 out), (12, .int .i64 ((ps.length : Nat) : Int)), (13, .int .i64 (((i + 1) : Nat) : Int))] [(0, (pB ps)), (1, ⟨[.int .i64 (Sp.lim 1048576 x), .int .i64 (Sp.lim 1048576 y)], 28, true, 2⟩)] ?_ (hc := (by simp [closedB, valsB, valB, List.all_eq_true, List.mem_flatMap, List.mem_range, List.mem_map, i64v, ptc, flat1]; try (intros; simp [valsB, valB, flat1]); try decide))
          exact ih1 ((i + 1), out) (show ((i + 1) ≤ ps.length) ∧ (-1 ≤ out ∧ out ≤ 1) ∧ (Sp.hasF ps (Sp.lim 1048576 x) (Sp.lim 1048576 y) (i + 1) out = Sp.hasF ps (Sp.lim 1048576 x) (Sp.lim 1048576 y) 0 (-1)) from ⟨by omega, by omega, by (rw [← hh]; first | exact Sp.hasF_no hil hj (by assumption) (Sp.crX_d1 (by assumption) (by assumption)) | exact Sp.hasF_no hil hj (by assumption) (Sp.crX_d2 (by assumption) (by assumption) (by assumption)) | exact Sp.hasF_no hil hj (by assumption) (Sp.crX_d3 (by assumption) (by assumption) (by assumption) (by assumption)) | exact Sp.hasF_cr hil hj (by assumption) (Sp.crX_d4 (by assumption) (by assumption) (by assumption) (by assumption)) | exact Sp.hasF_no hil hj (by assumption) (Sp.crX_u1 (by assumption) (by assumption)) | exact Sp.hasF_no hil hj (by assumption) (Sp.crX_u2 (by assumption) (by assumption) (by assumption)) | exact Sp.hasF_no hil hj (by assumption) (Sp.crX_u3 (by assumption) (by assumption) (by assumption) (by assumption)) | exact Sp.hasF_cr hil hj (by assumption) (Sp.crX_u4 (by assumption) (by assumption) (by assumption) (by assumption)))⟩) (show ps.length - (i + 1) < ps.length - i from by omega)
      · have h3p : ¬ (((Sp.lim 1048576 ((ps.getD i (0, 0)).2)) > (Sp.lim 1048576 ((ps.getD j (0, 0)).2)))) := by first | (simpa using h3) | (have h3q := h3; simp at h3q; omega) | (have h3q := bx2 h3; simp at h3q; omega)
        refine aw_sk ?_
        refine then_normal ?_
        rcases Bool.eq_false_or_eq_true (decide ((Sp.lim 1048576 ((ps.getD i (0, 0)).2)) < (Sp.lim 1048576 y))) with h7 | h7
        · have h7p : (((Sp.lim 1048576 ((ps.getD i (0, 0)).2)) < (Sp.lim 1048576 y))) := by first | (simpa using h7) | (have h7q := h7; simp at h7q; omega) | (have h7q := bx1 h7; simp at h7q; omega)
          rcases Bool.eq_false_or_eq_true (decide ((Sp.lim 1048576 y) ≤ (Sp.lim 1048576 ((ps.getD j (0, 0)).2)))) with h8 | h8
          · have h8p : (((Sp.lim 1048576 y) ≤ (Sp.lim 1048576 ((ps.getD j (0, 0)).2)))) := by first | (simpa using h8) | (have h8q := h8; simp at h8q; omega) | (have h8q := bx1 h8; simp at h8q; omega)
            refine aw_p 126911 (
              .a 4 4 <| .p (does_b true (h7)) <| .a 5 4 <| .p (does_b true (h8)) <| .a 5 4 <|
              .p (does_c (turn_in (Sp.lim 1048576 ((ps.getD i (0, 0)).1)) (Sp.lim 1048576 ((ps.getD i (0, 0)).2)) (Sp.lim 1048576 ((ps.getD j (0, 0)).1)) (Sp.lim 1048576 ((ps.getD j (0, 0)).2)) (Sp.lim 1048576 x) (Sp.lim 1048576 y) (by omega) (by omega) (by omega) (by omega) (by omega) (by omega) (by omega) (by omega) (by omega) (by omega) (by omega) (by omega))) <|
              .a 2 4 <| .nil _ _) ?_
            refine aw_cd 253822 253823 (decide ((Sp.cmp (Sp.crs (Sp.lim 1048576 ((ps.getD i (0, 0)).1)) (Sp.lim 1048576 ((ps.getD i (0, 0)).2)) (Sp.lim 1048576 ((ps.getD j (0, 0)).1)) (Sp.lim 1048576 ((ps.getD j (0, 0)).2)) (Sp.lim 1048576 x) (Sp.lim 1048576 y)) 0) > 0)) (fun h9 => ?_) (fun h9 => ?_)
            · have h9p : (((Sp.cmp (Sp.crs (Sp.lim 1048576 ((ps.getD i (0, 0)).1)) (Sp.lim 1048576 ((ps.getD i (0, 0)).2)) (Sp.lim 1048576 ((ps.getD j (0, 0)).1)) (Sp.lim 1048576 ((ps.getD j (0, 0)).2)) (Sp.lim 1048576 x) (Sp.lim 1048576 y)) 0) > 0)) := by first | (simpa using h9) | (have h9q := h9; simp at h9q; omega) | (have h9q := bx1 h9; simp at h9q; omega)
              refine aw_p1 (
                .a 1 4 <| .p (does_i (0 - out) (wrap_i64 (by omega) (by omega)) .i64) <| .a 1 4 <| .nil _ _) ?_
              refine block_normal ?_
              refine then_normal ?_
              refine aw_p1 (
                .p (does_i (((i : Nat) : Int) + 1) (wrap_i64 (by omega) (by omega)) .i64) <| .a 1 4 <| .nil _ _) ?_
              refine then_normal ?_
              refine al_w [(0, sV 0 ps.length), (3, .pointer (some ⟨1, 0, none⟩)), (5, .int .i64 (0 - out)), (12, .int .i64 ((ps.length : Nat) : Int)), (13, .int .i64 (((i + 1) : Nat) : Int))] [(0, (pB ps)), (1, ⟨[.int .i64 (Sp.lim 1048576 x), .int .i64 (Sp.lim 1048576 y)], 28, true, 2⟩)] ?_ (hc := (by simp [closedB, valsB, valB, List.all_eq_true, List.mem_flatMap, List.mem_range, List.mem_map, i64v, ptc, flat1]; try (intros; simp [valsB, valB, flat1]); try decide))
              exact ih1 ((i + 1), (0 - out)) (show ((i + 1) ≤ ps.length) ∧ (-1 ≤ (0 - out) ∧ (0 - out) ≤ 1) ∧ (Sp.hasF ps (Sp.lim 1048576 x) (Sp.lim 1048576 y) (i + 1) (0 - out) = Sp.hasF ps (Sp.lim 1048576 x) (Sp.lim 1048576 y) 0 (-1)) from ⟨by omega, by omega, by (rw [← hh]; first | exact Sp.hasF_no hil hj (by assumption) (Sp.crX_d1 (by assumption) (by assumption)) | exact Sp.hasF_no hil hj (by assumption) (Sp.crX_d2 (by assumption) (by assumption) (by assumption)) | exact Sp.hasF_no hil hj (by assumption) (Sp.crX_d3 (by assumption) (by assumption) (by assumption) (by assumption)) | exact Sp.hasF_cr hil hj (by assumption) (Sp.crX_d4 (by assumption) (by assumption) (by assumption) (by assumption)) | exact Sp.hasF_no hil hj (by assumption) (Sp.crX_u1 (by assumption) (by assumption)) | exact Sp.hasF_no hil hj (by assumption) (Sp.crX_u2 (by assumption) (by assumption) (by assumption)) | exact Sp.hasF_no hil hj (by assumption) (Sp.crX_u3 (by assumption) (by assumption) (by assumption) (by assumption)) | exact Sp.hasF_cr hil hj (by assumption) (Sp.crX_u4 (by assumption) (by assumption) (by assumption) (by assumption)))⟩) (show ps.length - (i + 1) < ps.length - i from by omega)
            · have h9p : ¬ (((Sp.cmp (Sp.crs (Sp.lim 1048576 ((ps.getD i (0, 0)).1)) (Sp.lim 1048576 ((ps.getD i (0, 0)).2)) (Sp.lim 1048576 ((ps.getD j (0, 0)).1)) (Sp.lim 1048576 ((ps.getD j (0, 0)).2)) (Sp.lim 1048576 x) (Sp.lim 1048576 y)) 0) > 0)) := by first | (simpa using h9) | (have h9q := h9; simp at h9q; omega) | (have h9q := bx2 h9; simp at h9q; omega)
              refine aw_sk ?_
              refine block_normal ?_
              refine then_normal ?_
              refine aw_p1 (
                .p (does_i (((i : Nat) : Int) + 1) (wrap_i64 (by omega) (by omega)) .i64) <| .a 1 4 <| .nil _ _) ?_
              refine then_normal ?_
              refine al_w [(0, sV 0 ps.length), (3, .pointer (some ⟨1, 0, none⟩)), (5, .int .i64 out), (12, .int .i64 ((ps.length : Nat) : Int)), (13, .int .i64 (((i + 1) : Nat) : Int))] [(0, (pB ps)), (1, ⟨[.int .i64 (Sp.lim 1048576 x), .int .i64 (Sp.lim 1048576 y)], 28, true, 2⟩)] ?_ (hc := (by simp [closedB, valsB, valB, List.all_eq_true, List.mem_flatMap, List.mem_range, List.mem_map, i64v, ptc, flat1]; try (intros; simp [valsB, valB, flat1]); try decide))
              exact ih1 ((i + 1), out) (show ((i + 1) ≤ ps.length) ∧ (-1 ≤ out ∧ out ≤ 1) ∧ (Sp.hasF ps (Sp.lim 1048576 x) (Sp.lim 1048576 y) (i + 1) out = Sp.hasF ps (Sp.lim 1048576 x) (Sp.lim 1048576 y) 0 (-1)) from ⟨by omega, by omega, by (rw [← hh]; first | exact Sp.hasF_no hil hj (by assumption) (Sp.crX_d1 (by assumption) (by assumption)) | exact Sp.hasF_no hil hj (by assumption) (Sp.crX_d2 (by assumption) (by assumption) (by assumption)) | exact Sp.hasF_no hil hj (by assumption) (Sp.crX_d3 (by assumption) (by assumption) (by assumption) (by assumption)) | exact Sp.hasF_cr hil hj (by assumption) (Sp.crX_d4 (by assumption) (by assumption) (by assumption) (by assumption)) | exact Sp.hasF_no hil hj (by assumption) (Sp.crX_u1 (by assumption) (by assumption)) | exact Sp.hasF_no hil hj (by assumption) (Sp.crX_u2 (by assumption) (by assumption) (by assumption)) | exact Sp.hasF_no hil hj (by assumption) (Sp.crX_u3 (by assumption) (by assumption) (by assumption) (by assumption)) | exact Sp.hasF_cr hil hj (by assumption) (Sp.crX_u4 (by assumption) (by assumption) (by assumption) (by assumption)))⟩) (show ps.length - (i + 1) < ps.length - i from by omega)
          · have h8p : ¬ (((Sp.lim 1048576 y) ≤ (Sp.lim 1048576 ((ps.getD j (0, 0)).2)))) := by first | (simpa using h8) | (have h8q := h8; simp at h8q; omega) | (have h8q := bx2 h8; simp at h8q; omega)
            refine aw_p 126911 (
              .a 4 4 <| .p (does_b true (h7)) <| .a 5 4 <| .p (does_b false (h8)) <| .a 8 4 <| .nil _ _) ?_
            refine aw_fl 253823 ?_
            refine aw_sk ?_
            refine block_normal ?_
            refine then_normal ?_
            refine aw_p1 (
              .p (does_i (((i : Nat) : Int) + 1) (wrap_i64 (by omega) (by omega)) .i64) <| .a 1 4 <| .nil _ _) ?_
            refine then_normal ?_
            refine al_w [(0, sV 0 ps.length), (3, .pointer (some ⟨1, 0, none⟩)), (5, .int .i64 out), (12, .int .i64 ((ps.length : Nat) : Int)), (13, .int .i64 (((i + 1) : Nat) : Int))] [(0, (pB ps)), (1, ⟨[.int .i64 (Sp.lim 1048576 x), .int .i64 (Sp.lim 1048576 y)], 28, true, 2⟩)] ?_ (hc := (by simp [closedB, valsB, valB, List.all_eq_true, List.mem_flatMap, List.mem_range, List.mem_map, i64v, ptc, flat1]; try (intros; simp [valsB, valB, flat1]); try decide))
            exact ih1 ((i + 1), out) (show ((i + 1) ≤ ps.length) ∧ (-1 ≤ out ∧ out ≤ 1) ∧ (Sp.hasF ps (Sp.lim 1048576 x) (Sp.lim 1048576 y) (i + 1) out = Sp.hasF ps (Sp.lim 1048576 x) (Sp.lim 1048576 y) 0 (-1)) from ⟨by omega, by omega, by (rw [← hh]; first | exact Sp.hasF_no hil hj (by assumption) (Sp.crX_d1 (by assumption) (by assumption)) | exact Sp.hasF_no hil hj (by assumption) (Sp.crX_d2 (by assumption) (by assumption) (by assumption)) | exact Sp.hasF_no hil hj (by assumption) (Sp.crX_d3 (by assumption) (by assumption) (by assumption) (by assumption)) | exact Sp.hasF_cr hil hj (by assumption) (Sp.crX_d4 (by assumption) (by assumption) (by assumption) (by assumption)) | exact Sp.hasF_no hil hj (by assumption) (Sp.crX_u1 (by assumption) (by assumption)) | exact Sp.hasF_no hil hj (by assumption) (Sp.crX_u2 (by assumption) (by assumption) (by assumption)) | exact Sp.hasF_no hil hj (by assumption) (Sp.crX_u3 (by assumption) (by assumption) (by assumption) (by assumption)) | exact Sp.hasF_cr hil hj (by assumption) (Sp.crX_u4 (by assumption) (by assumption) (by assumption) (by assumption)))⟩) (show ps.length - (i + 1) < ps.length - i from by omega)
        · have h7p : ¬ (((Sp.lim 1048576 ((ps.getD i (0, 0)).2)) < (Sp.lim 1048576 y))) := by first | (simpa using h7) | (have h7q := h7; simp at h7q; omega) | (have h7q := bx2 h7; simp at h7q; omega)
          refine aw_p 126911 (
            .a 4 4 <| .p (does_b false (h7)) <| .a 14 4 <| .nil _ _) ?_
          refine aw_fl 253823 ?_
          refine aw_sk ?_
          refine block_normal ?_
          refine then_normal ?_
          refine aw_p1 (
            .p (does_i (((i : Nat) : Int) + 1) (wrap_i64 (by omega) (by omega)) .i64) <| .a 1 4 <| .nil _ _) ?_
          refine then_normal ?_
          refine al_w [(0, sV 0 ps.length), (3, .pointer (some ⟨1, 0, none⟩)), (5, .int .i64 out), (12, .int .i64 ((ps.length : Nat) : Int)), (13, .int .i64 (((i + 1) : Nat) : Int))] [(0, (pB ps)), (1, ⟨[.int .i64 (Sp.lim 1048576 x), .int .i64 (Sp.lim 1048576 y)], 28, true, 2⟩)] ?_ (hc := (by simp [closedB, valsB, valB, List.all_eq_true, List.mem_flatMap, List.mem_range, List.mem_map, i64v, ptc, flat1]; try (intros; simp [valsB, valB, flat1]); try decide))
          exact ih1 ((i + 1), out) (show ((i + 1) ≤ ps.length) ∧ (-1 ≤ out ∧ out ≤ 1) ∧ (Sp.hasF ps (Sp.lim 1048576 x) (Sp.lim 1048576 y) (i + 1) out = Sp.hasF ps (Sp.lim 1048576 x) (Sp.lim 1048576 y) 0 (-1)) from ⟨by omega, by omega, by (rw [← hh]; first | exact Sp.hasF_no hil hj (by assumption) (Sp.crX_d1 (by assumption) (by assumption)) | exact Sp.hasF_no hil hj (by assumption) (Sp.crX_d2 (by assumption) (by assumption) (by assumption)) | exact Sp.hasF_no hil hj (by assumption) (Sp.crX_d3 (by assumption) (by assumption) (by assumption) (by assumption)) | exact Sp.hasF_cr hil hj (by assumption) (Sp.crX_d4 (by assumption) (by assumption) (by assumption) (by assumption)) | exact Sp.hasF_no hil hj (by assumption) (Sp.crX_u1 (by assumption) (by assumption)) | exact Sp.hasF_no hil hj (by assumption) (Sp.crX_u2 (by assumption) (by assumption) (by assumption)) | exact Sp.hasF_no hil hj (by assumption) (Sp.crX_u3 (by assumption) (by assumption) (by assumption) (by assumption)) | exact Sp.hasF_cr hil hj (by assumption) (Sp.crX_u4 (by assumption) (by assumption) (by assumption) (by assumption)))⟩) (show ps.length - (i + 1) < ps.length - i from by omega)
  · have h1p : ¬ ((((i : Nat) : Int) < ((ps.length : Nat) : Int))) := by first | (simpa using h1) | (have h1q := h1; simp at h1q; omega) | (have h1q := bx2 h1; simp at h1q; omega)
    have hge : ¬ i < ps.length := by omega
    refine aw_ex 0 ?_
    refine then_exit ?_
    refine then_exit ?_
    refine block_exit ?_
    refine then_normal ?_
    refine aw_p 63 (
      .a 2 2 <| .nil _ _) ?_
    refine aw_rt ?_
    exact en_ret [.int .i64 out] (show (.int .i64 out : Value) = (.int .i64 (Sp.hasF ps (Sp.lim 1048576 x) (Sp.lim 1048576 y) 0 (-1))) from (congrArg (Value.int .i64) (show out = (Sp.hasF ps (Sp.lim 1048576 x) (Sp.lim 1048576 y) 0 (-1)) from by (first | exact (by rw [← hh, Sp.hasF_on hil hj (by assumption)]) | exact (by rw [← hh, Sp.hasF_end hge])))))
theorem twice_own (ps : List (Int × Int)) (hz : ps.length ≤ 9223372036854775807) :
    AC Try.prog 39 1 ([sV 0 ps.length]) [(0, (pB ps))] (.int .i64 (Sp.twF ps 1 0)) [(0, (pB ps))] := by
  refine ac_in Try.func39 (fun w0 W pin => ?_)
  refine aw_p 3 (
    .a 1 1 <| .nil _ _) ?_
  refine aw_p 7 (
    .a 1 1 <| .nil _ _) ?_
  refine aw_sq 14 15 ?_
  refine aw_p 29 (
    .a 1 1 <| .nil _ _) ?_
  refine aw_bl 0 59 ?_
  refine aw_lp 119 ?_
  refine al_w [(0, sV 0 ps.length), (3, .int .i64 0), (4, .int .i64 ((1 + 1 : Nat) : Int))] [(0, (pB ps))] ?_ (hc := (by simp [closedB, valsB, valB, List.all_eq_true, List.mem_flatMap, List.mem_range, List.mem_map, i64v, ptc, flat1]; try (intros; simp [valsB, valB, flat1]); try decide))
  refine al_ind (fun i : Nat × Int => (fun (k : Nat) (s : Int) => mkSt 1 [(0, sV 0 ps.length), (3, .int .i64 s), (4, .int .i64 ((k + 1 : Nat) : Int))] [(0, (pB ps))]) i.1 i.2) (fun i : Nat × Int => (fun (k : Nat) (s : Int) => (1 ≤ k ∧ (k ≤ ps.length ∨ k = 1)) ∧ (Sp.twF ps k s = Sp.twF ps 1 0)) i.1 i.2) (fun i : Nat × Int => (fun (k : Nat) (s : Int) => ps.length - k) i.1 i.2) (fun i hi1 ih1 => ?_) (1, 0) (show (1 ≤ 1 ∧ (1 ≤ ps.length ∨ 1 = 1)) ∧ (Sp.twF ps 1 0 = Sp.twF ps 1 0) from ⟨by omega, by rfl⟩)
  obtain ⟨k, s⟩ := i
  have hi1' : (1 ≤ k ∧ (k ≤ ps.length ∨ k = 1)) ∧ (Sp.twF ps k s = Sp.twF ps 1 0) := hi1
  obtain ⟨hi, hh⟩ := hi1'
  show AL _ _ _ (mkSt 1 [(0, sV 0 ps.length), (3, .int .i64 s), (4, .int .i64 ((k + 1 : Nat) : Int))] [(0, (pB ps))]) _
  refine al_round ?_
  refine aw_sq 238 239 ?_
  refine aw_p 477 (
    .a 4 1 <| .nil _ _) ?_
  refine aw_cd 954 955 (decide (((k + 1 : Nat) : Int) < ((ps.length : Nat) : Int))) (fun h1 => ?_) (fun h1 => ?_)
  · have h1p : ((((k + 1 : Nat) : Int) < ((ps.length : Nat) : Int))) := by first | (simpa using h1) | (have h1q := h1; simp at h1q; omega) | (have h1q := bx1 h1; simp at h1q; omega)
    have hil : k + 1 < ps.length := by omega
    refine aw_sk ?_
    refine then_normal ?_
    refine aw_sq 478 479 ?_
    refine aw_bl 1 957 ?_
    refine aw_d1 (
      .a 2 1 <| .p (does_indexSlice (t := 30) (x := .tmp 12) (y := .const (.int .i64 0)) (k := 0) (off := 0) (n := ps.length) (c := 0) (z := 2) (kd := .i64) (j := 0) (by kernel_rfl) (by kernel_rfl) (by kernel_rfl) (by kernel_rfl) (by kernel_rfl) (by omega) (by omega)) <|
      .p (does_load (t := 28) (x := .tmp 13) (k := 0) (off := 0) (b := (pB ps)) (v := .agg #[.int .i64 ((ps.getD 0 (0, 0)).1), .int .i64 ((ps.getD 0 (0, 0)).2)]) (by kernel_rfl) (by kernel_rfl) (by kernel_rfl) (ldV_pair (j := 0) (by kernel_rfl) (by kernel_rfl) (by omega) (by omega))) <| .a 2 1 <|
      .p (does_i ((k : Nat) : Int) ((show (IntKind.wrap .i64 (((k + 1 : Nat) : Int) - 1)) = ((k : Nat) : Int) from ((wrap_i64 (by omega) (by omega)).trans (by omega)))) .i64) <|
      .p (does_indexSlice (t := 30) (x := .tmp 15) (y := .tmp 17) (k := 0) (off := 0) (n := ps.length) (c := 0) (z := 2) (kd := .i64) (j := ((k : Nat) : Int)) (by kernel_rfl) (by kernel_rfl) (by kernel_rfl) (by kernel_rfl) (by kernel_rfl) (by omega) (by omega)) <|
      .p (does_load (t := 28) (x := .tmp 18) (k := 0) (off := (0 + (((k : Nat) : Int)).toNat * 2)) (b := (pB ps)) (v := .agg #[.int .i64 ((ps.getD k (0, 0)).1), .int .i64 ((ps.getD k (0, 0)).2)]) (by kernel_rfl) (by kernel_rfl) (by kernel_rfl) (ldV_pair (j := k) (by kernel_rfl) (by kernel_rfl) (by omega) (by omega))) <|
      .a 2 1 <| .p (does_indexSlice (t := 30) (x := .tmp 20) (y := .tmp 21) (k := 0) (off := 0) (n := ps.length) (c := 0) (z := 2) (kd := .i64) (j := ((k + 1 : Nat) : Int)) (by kernel_rfl) (by kernel_rfl) (by kernel_rfl) (by kernel_rfl) (by kernel_rfl) (by omega) (by omega)) <|
      .p (does_load (t := 28) (x := .tmp 22) (k := 0) (off := (0 + (((k + 1 : Nat) : Int)).toNat * 2)) (b := (pB ps)) (v := .agg #[.int .i64 ((ps.getD (k + 1) (0, 0)).1), .int .i64 ((ps.getD (k + 1) (0, 0)).2)]) (by kernel_rfl) (by kernel_rfl) (by kernel_rfl) (ldV_pair (j := (k + 1)) (by kernel_rfl) (by kernel_rfl) (by omega) (by omega))) <|
      .p (does_c (cross_ok ((ps.getD 0 (0, 0)).1) ((ps.getD 0 (0, 0)).2) ((ps.getD k (0, 0)).1) ((ps.getD k (0, 0)).2) ((ps.getD (k + 1) (0, 0)).1) ((ps.getD (k + 1) (0, 0)).2))) <| .a 2 1 <| .nil _ _) ?_
    refine block_normal ?_
    refine then_normal ?_
    refine aw_p1 (
      .a 1 1 <| .p (does_i (((k + 1 : Nat) : Int) + 1) (wrap_i64 (by omega) (by omega)) .i64) <| .a 1 1 <| .nil _ _) ?_
    refine then_normal ?_
    refine al_w [(0, sV 0 ps.length), (3, .int .i64 (IntKind.wrap .i64 (s + (Sp.crs (Sp.lim 1048576 ((ps.getD 0 (0, 0)).1)) (Sp.lim 1048576 ((ps.getD 0 (0, 0)).2)) (Sp.lim 1048576 ((ps.getD k (0, 0)).1)) (Sp.lim 1048576 ((ps.getD k (0, 0)).2)) (Sp.lim 1048576 ((ps.getD (k + 1) (0, 0)).1)) (Sp.lim 1048576 ((ps.getD (k + 1) (0, 0)).2)))))), (4, .int .i64 (((k + 1) + 1 : Nat) : Int))] [(0, (pB ps))] ?_ (hc := (by simp [closedB, valsB, valB, List.all_eq_true, List.mem_flatMap, List.mem_range, List.mem_map, i64v, ptc, flat1]; try (intros; simp [valsB, valB, flat1]); try decide))
    exact ih1 ((k + 1), (IntKind.wrap .i64 (s + (Sp.crs (Sp.lim 1048576 ((ps.getD 0 (0, 0)).1)) (Sp.lim 1048576 ((ps.getD 0 (0, 0)).2)) (Sp.lim 1048576 ((ps.getD k (0, 0)).1)) (Sp.lim 1048576 ((ps.getD k (0, 0)).2)) (Sp.lim 1048576 ((ps.getD (k + 1) (0, 0)).1)) (Sp.lim 1048576 ((ps.getD (k + 1) (0, 0)).2)))))) (show (1 ≤ (k + 1) ∧ ((k + 1) ≤ ps.length ∨ (k + 1) = 1)) ∧ (Sp.twF ps (k + 1) (IntKind.wrap .i64 (s + (Sp.crs (Sp.lim 1048576 ((ps.getD 0 (0, 0)).1)) (Sp.lim 1048576 ((ps.getD 0 (0, 0)).2)) (Sp.lim 1048576 ((ps.getD k (0, 0)).1)) (Sp.lim 1048576 ((ps.getD k (0, 0)).2)) (Sp.lim 1048576 ((ps.getD (k + 1) (0, 0)).1)) (Sp.lim 1048576 ((ps.getD (k + 1) (0, 0)).2))))) = Sp.twF ps 1 0) from ⟨by omega, by (rw [← hh]; exact Sp.twF_step hil)⟩) (show ps.length - (k + 1) < ps.length - k from by omega)
  · have h1p : ¬ ((((k + 1 : Nat) : Int) < ((ps.length : Nat) : Int))) := by first | (simpa using h1) | (have h1q := h1; simp at h1q; omega) | (have h1q := bx2 h1; simp at h1q; omega)
    have hge : ¬ k + 1 < ps.length := by omega
    refine aw_ex 0 ?_
    refine then_exit ?_
    refine then_exit ?_
    refine block_exit ?_
    refine then_normal ?_
    refine aw_p 31 (
      .a 2 1 <| .nil _ _) ?_
    refine aw_rt ?_
    exact en_ret [.int .i64 s] (show (.int .i64 s : Value) = (.int .i64 (Sp.twF ps 1 0)) from (congrArg (Value.int .i64) (show s = (Sp.twF ps 1 0) from by (exact (by rw [← hh, Sp.twF_end hge])))))
theorem hasn_own (ps : List (Int × Int)) (N : Nat) (hN : ps.length = N) (hz : N ≤ 9223372036854775807) (x y : Int) : AC Try.prog 11 1 [.slice (some ⟨0, 0, none⟩) N 0, .agg #[.int .i64 x, .int .i64 y]] [(0, ⟨(ps.flatMap ptc), 28, true, 2⟩)] (.int .i64 (Sp.hasF ps (Sp.lim 1048576 x) (Sp.lim 1048576 y) 0 (-1))) [(0, ⟨(ps.flatMap ptc), 28, true, 2⟩)] := by
  subst hN
  exact has_own ps hz x y
theorem twicen_own (ps : List (Int × Int)) (N : Nat) (hN : ps.length = N) (hz : N ≤ 9223372036854775807) : AC Try.prog 39 1 [.slice (some ⟨0, 0, none⟩) N 0] [(0, ⟨(ps.flatMap ptc), 28, true, 2⟩)] (.int .i64 (Sp.twF ps 1 0)) [(0, ⟨(ps.flatMap ptc), 28, true, 2⟩)] := by
  subst hN
  exact twice_own ps hz
end Go.Proofs.Ytndkhgfecnbmnaa.Am

namespace Go.Proofs.Ytndkhgfecnbmnaa.Am
open Go Go.Proofs
set_option maxRecDepth 100000
set_option maxHeartbeats 4000000
set_option linter.unusedVariables false
set_option linter.unusedSimpArgs false
theorem grow0_ok (n : Nat) (hn : 1 ≤ n) (hz : n ≤ 4096) :
    AC Try.prog 69 0 ([.slice none 0 0, .int .i64 ((n : Nat) : Int)]) [] (sV 0 0) [(0, ⟨[], 28, true, 2⟩)] := by
  refine ac_in Try.func69 (fun w0 W pin => ?_)
  refine aw_p 3 (
    .a 1 0 <| .nil _ _) ?_
  refine aw_sq 6 7 ?_
  refine aw_p 13 (
    .a 1 0 <| .p (does_b false ((show (decide (((n : Nat) : Int) < 0)) = false from decide_eq_false (by omega)))) <| .nil _ _) ?_
  refine aw_fl 27 ?_
  refine aw_sk ?_
  refine then_normal ?_
  refine aw_sq 14 15 ?_
  refine aw_p 29 (
    .a 2 0 <| .p (does_pure (v := .int .i64 0) (by kernel_rfl) (fun w => by kernel_rfl) (by kernel_rfl)) <| .a 3 0 <| .p (does_i ((n : Nat) : Int) ((show (IntKind.wrap .i64 (((n : Nat) : Int) - 0)) = ((n : Nat) : Int) from ((wrap_i64 (by omega) (by omega)).trans (by omega)))) .i64) <| .a 1 0 <| .nil _ _) ?_
  refine aw_p 59 (
    .a 1 0 <| .p (does_b true ((show (decide (((n : Nat) : Int) > 0)) = true from decide_eq_true (by omega)))) <| .nil _ _) ?_
  refine aw_tr 118 ?_
  refine aw_p1 (
    .a 2 0 <| .p (does_pure (v := .int .i64 0) (by kernel_rfl) (fun w => by kernel_rfl) (by kernel_rfl)) <| .p (does_pure (v := .slice none 0 0) (by kernel_rfl) (fun w => by kernel_rfl) (by kernel_rfl)) <| .a 1 0 <|
    .p (does_room 0 28 2 16 n ((n : Nat) : Int) .i64 (by kernel_rfl) (by kernel_rfl) (by omega) (by omega) (by omega) (by omega)) <| .a 2 1 <|
    .p (does_val (v' := sV 0 0) (does_slice (t := 30) (x := .tmp 22) (lo := none) (hi := some (.tmp 24)) (k := 0) (off := 0) (n := n) (c := 0) (z := 2) (l := 0) (h := 0) (m := 0) (b := ⟨[], 28, true, 2⟩) (by kernel_rfl) (by kernel_rfl) (by kernel_rfl) (by kernel_rfl) (by kernel_rfl) (by kernel_rfl) (by kernel_rfl) (by kernel_rfl) (by omega) (by omega) (by omega) (by omega)) (by kernel_rfl)) <|
    .a 1 1 <| .nil _ _) ?_
  refine then_normal ?_
  refine aw_p 31 (
    .a 2 1 <| .nil _ _) ?_
  refine aw_rt ?_
  exact en_ret [sV 0 0] (by kernel_rfl)
theorem grow_ok (n : Nat) (n' : Int) (hn' : n' = ((n : Nat) : Int)) (hn : 1 ≤ n) (hz : n ≤ 4096) : AC Try.prog 69 0 [.slice none 0 0, .int .i64 n'] [] (.slice (some ⟨0, 0, none⟩) 0 0) [(0, ⟨[], 28, true, 2⟩)] := by
  subst hn'
  exact grow0_ok n hn hz
end Go.Proofs.Ytndkhgfecnbmnaa.Am

namespace Go.Proofs.Ytndkhgfecnbmnaa.Am
open Go Go.Proofs
set_option maxRecDepth 100000
set_option maxHeartbeats 4000000
set_option linter.unusedVariables false
set_option linter.unusedSimpArgs false
theorem clone_own (ps : List (Int × Int)) (hn : 1 ≤ ps.length) (hz : ps.length ≤ 4096) :
    AC Try.prog 32 1 ([sV 0 ps.length]) [(0, (pB ps))] (sV 1 ps.length) [(0, (pB ps)), (1, (pB ps))] := by
  refine ac_in Try.func32 (fun w0 W pin => ?_)
  refine aw_p 3 (
    .a 1 2 <| .nil _ _) ?_
  refine aw_sq 6 7 ?_
  refine aw_p 13 (
    .a 1 2 <| .p (does_sln (k := 0) (off := 0) (n := ps.length) (c := 0) (by kernel_rfl) (by omega)) <| .nil _ _) ?_
  refine aw_fl 27 ?_
  refine aw_sk ?_
  refine then_normal ?_
  refine aw_p 15 (
    .a 2 2 <|
    .p (does_apg ps.length 1 28 2 16 2 0 0 0 ps.length ⟨[], 28, true, 2⟩ (pB ps) (ps.flatMap ptc) (by kernel_rfl) (by kernel_rfl) (by kernel_rfl) (by kernel_rfl) (by kernel_rfl) (plain_pairs _) (by rw [Nat.zero_mul]; exact Nat.zero_le _) (by show _ ≤ (ps.flatMap ptc).length; rw [pairs_length]; omega) (.inl hn) (by omega) (by omega) (by show List.take _ [] ++ ((ps.flatMap ptc).drop _).take _ = _; rw [cut_pairs (j := 0) (k := ps.length) (by omega) (by omega), List.drop_zero, List.take_length, List.take_nil, List.nil_append]) (by omega)) <|
    .a 1 3 <| .nil _ _) ?_
  refine aw_rt ?_
  exact en_ret [sV 1 ps.length] (by kernel_rfl)
theorem rev_ok (ps : List (Int × Int)) (hn : 1 ≤ ps.length) (hz : ps.length ≤ 4096) :
    AC Try.prog 33 1 ([sV 0 ps.length]) [(0, (pB ps))] (.tuple #[]) [(0, (pB ps.reverse))] := by
  refine ac_in Try.func33 (fun w0 W pin => ?_)
  refine aw_p 3 (
    .a 2 1 <| .p (does_i ((ps.length - 1 : Nat) : Int) ((show (IntKind.wrap .i64 (((ps.length : Nat) : Int) - 1)) = ((ps.length - 1 : Nat) : Int) from ((wrap_i64 (by omega) (by omega)).trans (by omega)))) .i64) <| .a 2 1 <| .nil _ _) ?_
  refine aw_bl 0 7 ?_
  refine aw_w [(0, sV 0 ps.length), (2, .int .i64 0), (3, .int .i64 ((ps.length - 1 : Nat) : Int)), (4, sV 0 ps.length), (5, .int .i64 ((ps.length : Nat) : Int)), (6, .int .i64 ((ps.length - 1 : Nat) : Int))] [(0, (pB (Sp.rvl ps 0)))] ?_ (by kernel_rfl) (by rw [Sp.rvl_0]; kernel_rfl) (hc := (by simp [closedB, valsB, valB, List.all_eq_true, List.mem_flatMap, List.mem_range, List.mem_map, i64v, ptc, flat1]; try (intros; simp [valsB, valB, flat1]); try decide))
  refine aw_lp 15 ?_
  refine al_w [(0, sV 0 ps.length), (2, .int .i64 ((0 : Nat) : Int)), (3, .int .i64 (((ps.length - 1) : Nat) : Int))] [(0, (pB (Sp.rvl ps 0)))] ?_ (hc := (by simp [closedB, valsB, valB, List.all_eq_true, List.mem_flatMap, List.mem_range, List.mem_map, i64v, ptc, flat1]; try (intros; simp [valsB, valB, flat1]); try decide))
  refine al_ind (fun i : Nat × Nat => (fun (u : Nat) (v : Nat) => mkSt 1 [(0, sV 0 ps.length), (2, .int .i64 ((u : Nat) : Int)), (3, .int .i64 ((v : Nat) : Int))] [(0, (pB (Sp.rvl ps u)))]) i.1 i.2) (fun i : Nat × Nat => (fun (u : Nat) (v : Nat) => (u + v + 1 = ps.length)) i.1 i.2) (fun i : Nat × Nat => (fun (u : Nat) (v : Nat) => v - u) i.1 i.2) (fun i hi1 ih1 => ?_) (0, (ps.length - 1)) (show (0 + (ps.length - 1) + 1 = ps.length) from by omega)
  obtain ⟨u, v⟩ := i
  have hi1' : (u + v + 1 = ps.length) := hi1
  have hv : u + v + 1 = ps.length := hi1'
  show AL _ _ _ (mkSt 1 [(0, sV 0 ps.length), (2, .int .i64 ((u : Nat) : Int)), (3, .int .i64 ((v : Nat) : Int))] [(0, (pB (Sp.rvl ps u)))]) _
  refine al_round ?_
  refine aw_sq 30 31 ?_
  refine aw_p 61 (
    .a 3 1 <| .nil _ _) ?_
  refine aw_cd 122 123 (decide (((u : Nat) : Int) < ((v : Nat) : Int))) (fun h1 => ?_) (fun h1 => ?_)
  · have h1p : ((((u : Nat) : Int) < ((v : Nat) : Int))) := by first | (simpa using h1) | (have h1q := h1; simp at h1q; omega) | (have h1q := bx1 h1; simp at h1q; omega)
    have hlt : u < v := by omega
    refine aw_sk ?_
    refine then_normal ?_
    refine aw_sq 62 63 ?_
    refine aw_bl 1 125 ?_
    refine aw_d1 (
      .a 6 1 <| .p (does_indexSlice (t := 30) (x := .tmp 18) (y := .tmp 19) (k := 0) (off := 0) (n := ps.length) (c := 0) (z := 2) (kd := .i64) (j := ((v : Nat) : Int)) (by kernel_rfl) (by kernel_rfl) (by kernel_rfl) (by kernel_rfl) (by kernel_rfl) (by omega) (by omega)) <|
      .p (does_load (t := 28) (x := .tmp 20) (k := 0) (off := (0 + (((v : Nat) : Int)).toNat * 2)) (b := (pB (Sp.rvl ps u))) (v := .agg #[.int .i64 (((Sp.rvl ps u).getD v (0, 0)).1), .int .i64 (((Sp.rvl ps u).getD v (0, 0)).2)]) (by kernel_rfl) (by kernel_rfl) (by kernel_rfl) (ldV_pair (j := v) (by kernel_rfl) (by kernel_rfl) (by omega) (by first | omega | (simp only [Sp.rvl_len, List.length_set]; omega)))) <|
      .a 2 1 <| .p (does_indexSlice (t := 30) (x := .tmp 22) (y := .tmp 23) (k := 0) (off := 0) (n := ps.length) (c := 0) (z := 2) (kd := .i64) (j := ((u : Nat) : Int)) (by kernel_rfl) (by kernel_rfl) (by kernel_rfl) (by kernel_rfl) (by kernel_rfl) (by omega) (by omega)) <|
      .p (does_load (t := 28) (x := .tmp 24) (k := 0) (off := (0 + (((u : Nat) : Int)).toNat * 2)) (b := (pB (Sp.rvl ps u))) (v := .agg #[.int .i64 (((Sp.rvl ps u).getD u (0, 0)).1), .int .i64 (((Sp.rvl ps u).getD u (0, 0)).2)]) (by kernel_rfl) (by kernel_rfl) (by kernel_rfl) (ldV_pair (j := u) (by kernel_rfl) (by kernel_rfl) (by omega) (by first | omega | (simp only [Sp.rvl_len, List.length_set]; omega)))) <|
      .p (does_indexSlice (t := 30) (x := .tmp 14) (y := .tmp 15) (k := 0) (off := 0) (n := ps.length) (c := 0) (z := 2) (kd := .i64) (j := ((u : Nat) : Int)) (by kernel_rfl) (by kernel_rfl) (by kernel_rfl) (by kernel_rfl) (by kernel_rfl) (by omega) (by omega)) <|
      .p (does_store (t := 28) (x := .tmp 26) (y := .tmp 21) (k := 0) (off := (0 + (((u : Nat) : Int)).toNat * 2)) (b := (pB (Sp.rvl ps u))) (v := .agg #[.int .i64 (((Sp.rvl ps u).getD v (0, 0)).1), .int .i64 (((Sp.rvl ps u).getD v (0, 0)).2)]) (cells := (((Sp.rvl ps u).set u ((((Sp.rvl ps u).getD v (0, 0)).1), (((Sp.rvl ps u).getD v (0, 0)).2))).flatMap ptc)) (by kernel_rfl) (by kernel_rfl) (by kernel_rfl) (by kernel_rfl) (by kernel_rfl) (by kernel_rfl) (by kernel_rfl) (Nat.ble_eq_true_of_le (by show _ + 2 ≤ ((Sp.rvl ps u).flatMap ptc).length; rw [pairs_length]; first | omega | (simp only [Sp.rvl_len, List.length_set]; omega))) (set_pair (j := u) (by omega) (by first | omega | (simp only [Sp.rvl_len, List.length_set]; omega)))) <|
      .p (does_indexSlice (t := 30) (x := .tmp 16) (y := .tmp 17) (k := 0) (off := 0) (n := ps.length) (c := 0) (z := 2) (kd := .i64) (j := ((v : Nat) : Int)) (by kernel_rfl) (by kernel_rfl) (by kernel_rfl) (by kernel_rfl) (by kernel_rfl) (by omega) (by omega)) <|
      .p (does_store (t := 28) (x := .tmp 27) (y := .tmp 25) (k := 0) (off := (0 + (((v : Nat) : Int)).toNat * 2)) (b := (pB ((Sp.rvl ps u).set u ((((Sp.rvl ps u).getD v (0, 0)).1), (((Sp.rvl ps u).getD v (0, 0)).2))))) (v := .agg #[.int .i64 (((Sp.rvl ps u).getD u (0, 0)).1), .int .i64 (((Sp.rvl ps u).getD u (0, 0)).2)]) (cells := ((((Sp.rvl ps u).set u ((((Sp.rvl ps u).getD v (0, 0)).1), (((Sp.rvl ps u).getD v (0, 0)).2))).set v ((((Sp.rvl ps u).getD u (0, 0)).1), (((Sp.rvl ps u).getD u (0, 0)).2))).flatMap ptc)) (by kernel_rfl) (by kernel_rfl) (by kernel_rfl) (by kernel_rfl) (by kernel_rfl) (by kernel_rfl) (by kernel_rfl) (Nat.ble_eq_true_of_le (by show _ + 2 ≤ (((Sp.rvl ps u).set u ((((Sp.rvl ps u).getD v (0, 0)).1), (((Sp.rvl ps u).getD v (0, 0)).2))).flatMap ptc).length; rw [pairs_length]; first | omega | (simp only [Sp.rvl_len, List.length_set]; omega))) (set_pair (j := v) (by omega) (by first | omega | (simp only [Sp.rvl_len, List.length_set]; omega)))) <| .nil _ _) ?_
    refine block_normal ?_
    refine then_normal ?_
    refine aw_w [(0, sV 0 ps.length), (2, .int .i64 ((u : Nat) : Int)), (3, .int .i64 ((v : Nat) : Int)), (7, .int .i64 ((u : Nat) : Int)), (8, .int .i64 ((v : Nat) : Int)), (9, .bool (decide (((u : Nat) : Int) < ((v : Nat) : Int)))), (14, sV 0 ps.length), (15, .int .i64 ((u : Nat) : Int)), (16, sV 0 ps.length), (17, .int .i64 ((v : Nat) : Int)), (18, sV 0 ps.length), (19, .int .i64 ((v : Nat) : Int)), (20, .pointer (some ⟨0, 0 + (((v : Nat) : Int)).toNat * 2, none⟩)), (21, .agg #[.int .i64 (((Sp.rvl ps u).getD v (0, 0)).1), .int .i64 (((Sp.rvl ps u).getD v (0, 0)).2)]), (22, sV 0 ps.length), (23, .int .i64 ((u : Nat) : Int)), (24, .pointer (some ⟨0, 0 + (((u : Nat) : Int)).toNat * 2, none⟩)), (25, .agg #[.int .i64 (((Sp.rvl ps u).getD u (0, 0)).1), .int .i64 (((Sp.rvl ps u).getD u (0, 0)).2)]), (26, .pointer (some ⟨0, 0 + (((u : Nat) : Int)).toNat * 2, none⟩)), (27, .pointer (some ⟨0, 0 + (((v : Nat) : Int)).toNat * 2, none⟩))] [(0, (pB (Sp.rvl ps (u + 1))))] ?_ (by kernel_rfl) (by rw [← Sp.rvl_next hv hlt]; kernel_rfl) (hc := (by simp [closedB, valsB, valB, List.all_eq_true, List.mem_flatMap, List.mem_range, List.mem_map, i64v, ptc, flat1]; try (intros; simp [valsB, valB, flat1]); try decide))
    refine aw_p1 (
      .a 1 1 <| .p (does_i (((u : Nat) : Int) + 1) (wrap_i64 (by omega) (by omega)) .i64) <| .a 1 1 <| .p (does_i ((v - 1 : Nat) : Int) ((show (IntKind.wrap .i64 (((v : Nat) : Int) - 1)) = ((v - 1 : Nat) : Int) from ((wrap_i64 (by omega) (by omega)).trans (by omega)))) .i64) <| .a 2 1 <| .nil _ _) ?_
    refine then_normal ?_
    refine al_w [(0, sV 0 ps.length), (2, .int .i64 (((u + 1) : Nat) : Int)), (3, .int .i64 (((v - 1) : Nat) : Int))] [(0, (pB (Sp.rvl ps (u + 1))))] ?_ (hc := (by simp [closedB, valsB, valB, List.all_eq_true, List.mem_flatMap, List.mem_range, List.mem_map, i64v, ptc, flat1]; try (intros; simp [valsB, valB, flat1]); try decide))
    exact ih1 ((u + 1), (v - 1)) (show ((u + 1) + (v - 1) + 1 = ps.length) from by omega) (show (v - 1) - (u + 1) < v - u from by omega)
  · have h1p : ¬ ((((u : Nat) : Int) < ((v : Nat) : Int))) := by first | (simpa using h1) | (have h1q := h1; simp at h1q; omega) | (have h1q := bx2 h1; simp at h1q; omega)
    have hge : ¬ u < v := by omega
    refine aw_w [(0, sV 0 ps.length), (2, .int .i64 ((u : Nat) : Int)), (3, .int .i64 ((v : Nat) : Int)), (7, .int .i64 ((u : Nat) : Int)), (8, .int .i64 ((v : Nat) : Int)), (9, .bool (decide (((u : Nat) : Int) < ((v : Nat) : Int))))] [(0, (pB ps.reverse))] ?_ (by kernel_rfl) (by rw [← Sp.rvl_end hv hge]; kernel_rfl) (hc := (by simp [closedB, valsB, valB, List.all_eq_true, List.mem_flatMap, List.mem_range, List.mem_map, i64v, ptc, flat1]; try (intros; simp [valsB, valB, flat1]); try decide))
    refine aw_ex 0 ?_
    refine then_exit ?_
    refine then_exit ?_
    refine block_exit ?_
    exact en_normal [] (by kernel_rfl)
theorem minf_ok (ps : List (Int × Int)) (hn : 1 ≤ ps.length) (hz : ps.length ≤ 4096) :
    AC Try.prog 89 1 ([sV 0 ps.length, .func (.func 68) #[] #[]]) [(0, (pB ps))] (.agg #[.int .i64 ((Sp.mnP ps (ps.length - 1)).1), .int .i64 ((Sp.mnP ps (ps.length - 1)).2)]) [(0, (pB ps))] := by
  refine ac_in Try.func89 (fun w0 W pin => ?_)
  refine aw_p 3 (
    .a 1 1 <| .nil _ _) ?_
  refine aw_sq 6 7 ?_
  refine aw_p 13 (
    .a 2 2 <| .p (does_b false ((show (decide (((ps.length : Nat) : Int) < 1)) = false from decide_eq_false (by omega)))) <| .nil _ _) ?_
  refine aw_fl 27 ?_
  refine aw_sk ?_
  refine then_normal ?_
  refine aw_p 15 (
    .a 1 2 <| .p (does_indexSlice (t := 30) (x := .tmp 11) (y := .const (.int .i64 0)) (k := 0) (off := 0) (n := ps.length) (c := 0) (z := 2) (kd := .i64) (j := 0) (by kernel_rfl) (by kernel_rfl) (by kernel_rfl) (by kernel_rfl) (by kernel_rfl) (by omega) (by omega)) <|
    .p (does_load (t := 28) (x := .tmp 12) (k := 0) (off := 0) (b := (pB ps)) (v := .agg #[.int .i64 ((ps.getD 0 (0, 0)).1), .int .i64 ((ps.getD 0 (0, 0)).2)]) (by kernel_rfl) (by kernel_rfl) (by kernel_rfl) (ldV_pair (j := 0) (by kernel_rfl) (by kernel_rfl) (by omega) (by omega))) <| .a 2 2 <| .nil _ _) ?_
  refine aw_sq 30 31 ?_
  refine aw_p 61 (
    .a 1 3 <| .nil _ _) ?_
  refine aw_bl 0 123 ?_
  refine aw_lp 247 ?_
  refine al_w [(0, sV 0 ps.length), (1, .func (.func 68) #[] #[]), (4, .pointer (some ⟨1, 0, none⟩)), (5, .pointer (some ⟨2, 0, none⟩)), (6, .int .i64 ((0 + 1 : Nat) : Int))] [(0, (pB ps)), (1, ⟨[.int .i64 0, .int .i64 0], 28, true, 2⟩), (2, ⟨[.int .i64 ((ps.getD 0 (0, 0)).1), .int .i64 ((ps.getD 0 (0, 0)).2)], 28, true, 2⟩)] ?_ (hc := (by simp [closedB, valsB, valB, List.all_eq_true, List.mem_flatMap, List.mem_range, List.mem_map, i64v, ptc, flat1]; try (intros; simp [valsB, valB, flat1]); try decide))
  refine al_ind (fun i : Nat × Int × Int => (fun (i : Nat) (a : Int) (b : Int) => mkSt 1 [(0, sV 0 ps.length), (1, .func (.func 68) #[] #[]), (4, .pointer (some ⟨1, 0, none⟩)), (5, .pointer (some ⟨2, 0, none⟩)), (6, .int .i64 ((i + 1 : Nat) : Int))] [(0, (pB ps)), (1, ⟨[.int .i64 0, .int .i64 0], 28, true, 2⟩), (2, ⟨[.int .i64 a, .int .i64 b], 28, true, 2⟩)]) i.1 i.2.1 i.2.2) (fun i : Nat × Int × Int => (fun (i : Nat) (a : Int) (b : Int) => (i + 1 ≤ ps.length) ∧ (a = (Sp.mnP ps i).1) ∧ (b = (Sp.mnP ps i).2)) i.1 i.2.1 i.2.2) (fun i : Nat × Int × Int => (fun (i : Nat) (a : Int) (b : Int) => ps.length - i) i.1 i.2.1 i.2.2) (fun i hi1 ih1 => ?_) (0, ((ps.getD 0 (0, 0)).1), ((ps.getD 0 (0, 0)).2)) (show (0 + 1 ≤ ps.length) ∧ (((ps.getD 0 (0, 0)).1) = (Sp.mnP ps 0).1) ∧ (((ps.getD 0 (0, 0)).2) = (Sp.mnP ps 0).2) from ⟨by omega, by rfl, by rfl⟩)
  obtain ⟨i, a, b⟩ := i
  have hi1' : (i + 1 ≤ ps.length) ∧ (a = (Sp.mnP ps i).1) ∧ (b = (Sp.mnP ps i).2) := hi1
  obtain ⟨hi, ha, hb⟩ := hi1'
  show AL _ _ _ (mkSt 1 [(0, sV 0 ps.length), (1, .func (.func 68) #[] #[]), (4, .pointer (some ⟨1, 0, none⟩)), (5, .pointer (some ⟨2, 0, none⟩)), (6, .int .i64 ((i + 1 : Nat) : Int))] [(0, (pB ps)), (1, ⟨[.int .i64 0, .int .i64 0], 28, true, 2⟩), (2, ⟨[.int .i64 a, .int .i64 b], 28, true, 2⟩)]) _
  refine al_round ?_
  refine aw_sq 494 495 ?_
  refine aw_p 989 (
    .a 4 3 <| .nil _ _) ?_
  refine aw_cd 1978 1979 (decide (((i + 1 : Nat) : Int) < ((ps.length : Nat) : Int))) (fun h1 => ?_) (fun h1 => ?_)
  · have h1p : ((((i + 1 : Nat) : Int) < ((ps.length : Nat) : Int))) := by first | (simpa using h1) | (have h1q := h1; simp at h1q; omega) | (have h1q := bx1 h1; simp at h1q; omega)
    have hil : i + 1 < ps.length := by omega
    refine aw_sk ?_
    refine then_normal ?_
    refine aw_sq 990 991 ?_
    refine aw_bl 1 1981 ?_
    refine aw_d 3963 (
      .a 3 3 <| .p (does_indexSlice (t := 30) (x := .tmp 21) (y := .tmp 22) (k := 0) (off := 0) (n := ps.length) (c := 0) (z := 2) (kd := .i64) (j := ((i + 1 : Nat) : Int)) (by kernel_rfl) (by kernel_rfl) (by kernel_rfl) (by kernel_rfl) (by kernel_rfl) (by omega) (by omega)) <|
      .p (does_load (t := 28) (x := .tmp 23) (k := 0) (off := (0 + (((i + 1 : Nat) : Int)).toNat * 2)) (b := (pB ps)) (v := .agg #[.int .i64 ((ps.getD (i + 1) (0, 0)).1), .int .i64 ((ps.getD (i + 1) (0, 0)).2)]) (by kernel_rfl) (by kernel_rfl) (by kernel_rfl) (ldV_pair (j := (i + 1)) (by kernel_rfl) (by kernel_rfl) (by omega) (by omega))) <|
      .a 1 3 <| .p (does_c (pcmp_ok ((ps.getD (i + 1) (0, 0)).1) ((ps.getD (i + 1) (0, 0)).2) a b)) <| .a 1 3 <| .nil _ _) ?_
    refine aw_cd 7926 7927 (decide ((Sp.pcmp ((ps.getD (i + 1) (0, 0)).1) ((ps.getD (i + 1) (0, 0)).2) a b) < 0)) (fun h2 => ?_) (fun h2 => ?_)
    · have h2p : (((Sp.pcmp ((ps.getD (i + 1) (0, 0)).1) ((ps.getD (i + 1) (0, 0)).2) a b) < 0)) := by first | (simpa using h2) | (have h2q := h2; simp at h2q; omega) | (have h2q := bx1 h2; simp at h2q; omega)
      refine aw_p1 (
        .a 2 3 <| .p (does_indexSlice (t := 30) (x := .tmp 28) (y := .tmp 29) (k := 0) (off := 0) (n := ps.length) (c := 0) (z := 2) (kd := .i64) (j := ((i + 1 : Nat) : Int)) (by kernel_rfl) (by kernel_rfl) (by kernel_rfl) (by kernel_rfl) (by kernel_rfl) (by omega) (by omega)) <|
        .p (does_load (t := 28) (x := .tmp 30) (k := 0) (off := (0 + (((i + 1 : Nat) : Int)).toNat * 2)) (b := (pB ps)) (v := .agg #[.int .i64 ((ps.getD (i + 1) (0, 0)).1), .int .i64 ((ps.getD (i + 1) (0, 0)).2)]) (by kernel_rfl) (by kernel_rfl) (by kernel_rfl) (ldV_pair (j := (i + 1)) (by kernel_rfl) (by kernel_rfl) (by omega) (by omega))) <|
        .a 1 3 <| .nil _ _) ?_
      refine block_normal ?_
      refine then_normal ?_
      refine aw_p1 (
        .a 1 3 <| .p (does_i (((i + 1 : Nat) : Int) + 1) (wrap_i64 (by omega) (by omega)) .i64) <| .a 1 3 <| .nil _ _) ?_
      refine then_normal ?_
      refine al_w [(0, sV 0 ps.length), (1, .func (.func 68) #[] #[]), (4, .pointer (some ⟨1, 0, none⟩)), (5, .pointer (some ⟨2, 0, none⟩)), (6, .int .i64 (((i + 1) + 1 : Nat) : Int))] [(0, (pB ps)), (1, ⟨[.int .i64 0, .int .i64 0], 28, true, 2⟩), (2, ⟨[.int .i64 ((ps.getD (i + 1) (0, 0)).1), .int .i64 ((ps.getD (i + 1) (0, 0)).2)], 28, true, 2⟩)] ?_ (hc := (by simp [closedB, valsB, valB, List.all_eq_true, List.mem_flatMap, List.mem_range, List.mem_map, i64v, ptc, flat1]; try (intros; simp [valsB, valB, flat1]); try decide))
      exact ih1 ((i + 1), ((ps.getD (i + 1) (0, 0)).1), ((ps.getD (i + 1) (0, 0)).2)) (show ((i + 1) + 1 ≤ ps.length) ∧ (((ps.getD (i + 1) (0, 0)).1) = (Sp.mnP ps (i + 1)).1) ∧ (((ps.getD (i + 1) (0, 0)).2) = (Sp.mnP ps (i + 1)).2) from ⟨by omega, by (first | exact congrArg (·.1) (Sp.mnP_y ha hb (by assumption)) | exact congrArg (·.1) (Sp.mnP_n ha hb (by assumption))), by (first | exact congrArg (·.2) (Sp.mnP_y ha hb (by assumption)) | exact congrArg (·.2) (Sp.mnP_n ha hb (by assumption)))⟩) (show ps.length - (i + 1) < ps.length - i from by omega)
    · have h2p : ¬ (((Sp.pcmp ((ps.getD (i + 1) (0, 0)).1) ((ps.getD (i + 1) (0, 0)).2) a b) < 0)) := by first | (simpa using h2) | (have h2q := h2; simp at h2q; omega) | (have h2q := bx2 h2; simp at h2q; omega)
      refine aw_sk ?_
      refine block_normal ?_
      refine then_normal ?_
      refine aw_p1 (
        .a 1 3 <| .p (does_i (((i + 1 : Nat) : Int) + 1) (wrap_i64 (by omega) (by omega)) .i64) <| .a 1 3 <| .nil _ _) ?_
      refine then_normal ?_
      refine al_w [(0, sV 0 ps.length), (1, .func (.func 68) #[] #[]), (4, .pointer (some ⟨1, 0, none⟩)), (5, .pointer (some ⟨2, 0, none⟩)), (6, .int .i64 (((i + 1) + 1 : Nat) : Int))] [(0, (pB ps)), (1, ⟨[.int .i64 0, .int .i64 0], 28, true, 2⟩), (2, ⟨[.int .i64 a, .int .i64 b], 28, true, 2⟩)] ?_ (hc := (by simp [closedB, valsB, valB, List.all_eq_true, List.mem_flatMap, List.mem_range, List.mem_map, i64v, ptc, flat1]; try (intros; simp [valsB, valB, flat1]); try decide))
      exact ih1 ((i + 1), a, b) (show ((i + 1) + 1 ≤ ps.length) ∧ (a = (Sp.mnP ps (i + 1)).1) ∧ (b = (Sp.mnP ps (i + 1)).2) from ⟨by omega, by (first | exact congrArg (·.1) (Sp.mnP_y ha hb (by assumption)) | exact congrArg (·.1) (Sp.mnP_n ha hb (by assumption))), by (first | exact congrArg (·.2) (Sp.mnP_y ha hb (by assumption)) | exact congrArg (·.2) (Sp.mnP_n ha hb (by assumption)))⟩) (show ps.length - (i + 1) < ps.length - i from by omega)
  · have h1p : ¬ ((((i + 1 : Nat) : Int) < ((ps.length : Nat) : Int))) := by first | (simpa using h1) | (have h1q := h1; simp at h1q; omega) | (have h1q := bx2 h1; simp at h1q; omega)
    have hge : i = ps.length - 1 := by omega
    refine aw_ex 0 ?_
    refine then_exit ?_
    refine then_exit ?_
    refine block_exit ?_
    refine then_normal ?_
    refine aw_p 63 (
      .a 2 3 <| .nil _ _) ?_
    refine aw_rt ?_
    exact en_ret [.agg #[.int .i64 a, .int .i64 b]] (show (.agg #[.int .i64 a, .int .i64 b] : Value) = (.agg #[.int .i64 ((Sp.mnP ps (ps.length - 1)).1), .int .i64 ((Sp.mnP ps (ps.length - 1)).2)]) from (congrArg (fun z : List Value => Value.agg z.toArray) (lcons (congrArg (Value.int .i64) (show a = ((Sp.mnP ps (ps.length - 1)).1) from by (first | exact (by rw [ha, hge]) | exact (by rw [hb, hge])))) (lcons (congrArg (Value.int .i64) (show b = ((Sp.mnP ps (ps.length - 1)).2) from by (first | exact (by rw [ha, hge]) | exact (by rw [hb, hge])))) rfl))))
theorem index_ok (ps : List (Int × Int)) (hn : 1 ≤ ps.length) (hz : ps.length ≤ 4096) (x y : Int) :
    AC Try.prog 88 1 ([sV 0 ps.length, .agg #[.int .i64 x, .int .i64 y]]) [(0, (pB ps))] (.int .i64 (Sp.ixF (Sp.eqTo (x, y)) ps 0)) [(0, (pB ps))] := by
  refine ac_in Try.func88 (fun w0 W pin => ?_)
  refine aw_p 3 (
    .a 2 1 <| .nil _ _) ?_
  refine aw_sq 6 7 ?_
  refine aw_p 13 (
    .a 3 2 <| .nil _ _) ?_
  refine aw_bl 0 27 ?_
  refine aw_lp 55 ?_
  refine al_w [(0, sV 0 ps.length), (3, .pointer (some ⟨1, 0, none⟩)), (7, .int .i64 ((ps.length : Nat) : Int)), (8, .int .i64 ((0 : Nat) : Int))] [(0, (pB ps)), (1, ⟨[.int .i64 x, .int .i64 y], 28, true, 2⟩)] ?_ (hc := (by simp [closedB, valsB, valB, List.all_eq_true, List.mem_flatMap, List.mem_range, List.mem_map, i64v, ptc, flat1]; try (intros; simp [valsB, valB, flat1]); try decide))
  refine al_ind (fun i : Nat => (fun (i : Nat) => mkSt 1 [(0, sV 0 ps.length), (3, .pointer (some ⟨1, 0, none⟩)), (7, .int .i64 ((ps.length : Nat) : Int)), (8, .int .i64 ((i : Nat) : Int))] [(0, (pB ps)), (1, ⟨[.int .i64 x, .int .i64 y], 28, true, 2⟩)]) i) (fun i : Nat => (fun (i : Nat) => (i ≤ ps.length) ∧ (Sp.ixF (Sp.eqTo (x, y)) ps i = Sp.ixF (Sp.eqTo (x, y)) ps 0)) i) (fun i : Nat => (fun (i : Nat) => ps.length - i) i) (fun i hi1 ih1 => ?_) 0 (show (0 ≤ ps.length) ∧ (Sp.ixF (Sp.eqTo (x, y)) ps 0 = Sp.ixF (Sp.eqTo (x, y)) ps 0) from ⟨by omega, by rfl⟩)
  obtain ⟨i, hv1⟩ : ∃ z, z = i := ⟨i, rfl⟩; subst hv1
  have hi1' : (i ≤ ps.length) ∧ (Sp.ixF (Sp.eqTo (x, y)) ps i = Sp.ixF (Sp.eqTo (x, y)) ps 0) := hi1
  obtain ⟨hi, hh⟩ := hi1'
  show AL _ _ _ (mkSt 1 [(0, sV 0 ps.length), (3, .pointer (some ⟨1, 0, none⟩)), (7, .int .i64 ((ps.length : Nat) : Int)), (8, .int .i64 ((i : Nat) : Int))] [(0, (pB ps)), (1, ⟨[.int .i64 x, .int .i64 y], 28, true, 2⟩)]) _
  refine al_round ?_
  refine aw_p 111 (
    .a 1 2 <| .nil _ _) ?_
  refine aw_sq 222 223 ?_
  refine aw_cd 444 445 (decide (((i : Nat) : Int) < ((ps.length : Nat) : Int))) (fun h1 => ?_) (fun h1 => ?_)
  · have h1p : ((((i : Nat) : Int) < ((ps.length : Nat) : Int))) := by first | (simpa using h1) | (have h1q := h1; simp at h1q; omega) | (have h1q := bx1 h1; simp at h1q; omega)
    have hil : i < ps.length := by omega
    refine aw_sk ?_
    refine then_normal ?_
    refine aw_sq 446 447 ?_
    refine aw_bl 1 893 ?_
    refine aw_p 1787 (
      .a 2 2 <| .nil _ _) ?_
    refine aw_d 3575 (
      .a 3 2 <| .p (does_indexSlice (t := 30) (x := .tmp 12) (y := .tmp 13) (k := 0) (off := 0) (n := ps.length) (c := 0) (z := 2) (kd := .i64) (j := ((i : Nat) : Int)) (by kernel_rfl) (by kernel_rfl) (by kernel_rfl) (by kernel_rfl) (by kernel_rfl) (by omega) (by omega)) <|
      .p (does_load (t := 28) (x := .tmp 14) (k := 0) (off := (0 + (((i : Nat) : Int)).toNat * 2)) (b := (pB ps)) (v := .agg #[.int .i64 ((ps.getD i (0, 0)).1), .int .i64 ((ps.getD i (0, 0)).2)]) (by kernel_rfl) (by kernel_rfl) (by kernel_rfl) (ldV_pair (j := i) (by kernel_rfl) (by kernel_rfl) (by omega) (by omega))) <|
      .p (does_e ((x == ((ps.getD i (0, 0)).1)) && ((y == ((ps.getD i (0, 0)).2)) && true)) (rfl)) <| .nil _ _) ?_
    refine aw_cd 7150 7151 ((x == ((ps.getD i (0, 0)).1)) && ((y == ((ps.getD i (0, 0)).2)) && true)) (fun h2 => ?_) (fun h2 => ?_)
    · have h2p : ((x = ((ps.getD i (0, 0)).1) ∧ y = ((ps.getD i (0, 0)).2))) := by first | (simpa using h2) | (have h2q := h2; simp at h2q; omega) | (have h2q := bx1 h2; simp at h2q; omega)
      refine aw_p 14301 (
        .a 2 2 <| .nil _ _) ?_
      refine aw_rt ?_
      refine block_ret ?_
      refine then_ret ?_
      refine then_ret ?_
      refine block_ret ?_
      refine then_ret ?_
      exact en_ret [.int .i64 ((i : Nat) : Int)] (show (.int .i64 ((i : Nat) : Int) : Value) = (.int .i64 (Sp.ixF (Sp.eqTo (x, y)) ps 0)) from (congrArg (Value.int .i64) (show ((i : Nat) : Int) = (Sp.ixF (Sp.eqTo (x, y)) ps 0) from by (first | exact (by rw [← hh, Sp.ixF_yes hil (by assumption)]) | exact (by rw [← hh, Sp.ixF_end hge])))))
    · have h2p : ¬ ((x = ((ps.getD i (0, 0)).1) ∧ y = ((ps.getD i (0, 0)).2))) := by first | (simpa using h2) | (have h2q := h2; simp at h2q; omega) | (have h2q := bx2 h2; simp at h2q; omega)
      refine aw_sk ?_
      refine block_normal ?_
      refine then_normal ?_
      refine aw_p1 (
        .p (does_i (((i : Nat) : Int) + 1) (wrap_i64 (by omega) (by omega)) .i64) <| .a 1 2 <| .nil _ _) ?_
      refine then_normal ?_
      refine al_w [(0, sV 0 ps.length), (3, .pointer (some ⟨1, 0, none⟩)), (7, .int .i64 ((ps.length : Nat) : Int)), (8, .int .i64 (((i + 1) : Nat) : Int))] [(0, (pB ps)), (1, ⟨[.int .i64 x, .int .i64 y], 28, true, 2⟩)] ?_ (hc := (by simp [closedB, valsB, valB, List.all_eq_true, List.mem_flatMap, List.mem_range, List.mem_map, i64v, ptc, flat1]; try (intros; simp [valsB, valB, flat1]); try decide))
      exact ih1 (i + 1) (show ((i + 1) ≤ ps.length) ∧ (Sp.ixF (Sp.eqTo (x, y)) ps (i + 1) = Sp.ixF (Sp.eqTo (x, y)) ps 0) from ⟨by omega, by (rw [← hh]; exact Sp.ixF_no hil (by assumption))⟩) (show ps.length - (i + 1) < ps.length - i from by omega)
  · have h1p : ¬ ((((i : Nat) : Int) < ((ps.length : Nat) : Int))) := by first | (simpa using h1) | (have h1q := h1; simp at h1q; omega) | (have h1q := bx2 h1; simp at h1q; omega)
    have hge : ¬ i < ps.length := by omega
    refine aw_ex 0 ?_
    refine then_exit ?_
    refine then_exit ?_
    refine block_exit ?_
    refine then_normal ?_
    refine aw_p 15 (
      .a 1 2 <| .nil _ _) ?_
    refine aw_rt ?_
    exact en_ret [.int .i64 (-1)] (show (.int .i64 (-1) : Value) = (.int .i64 (Sp.ixF (Sp.eqTo (x, y)) ps 0)) from (congrArg (Value.int .i64) (show (-1) = (Sp.ixF (Sp.eqTo (x, y)) ps 0) from by (first | exact (by rw [← hh, Sp.ixF_yes hil (by assumption)]) | exact (by rw [← hh, Sp.ixF_end hge])))))
theorem minf_n (ps : List (Int × Int)) (N : Nat) (hN : ps.length = N) (hn : 1 ≤ N) (hz : N ≤ 4096) : AC Try.prog 89 1 [.slice (some ⟨0, 0, none⟩) N 0, .func (.func 68) #[] #[]] [(0, (pB ps))] (.agg #[.int .i64 (Sp.mnP ps (N - 1)).1, .int .i64 (Sp.mnP ps (N - 1)).2]) [(0, (pB ps))] := by
  subst hN
  exact minf_ok ps hn hz
theorem index_n (ps : List (Int × Int)) (N : Nat) (hN : ps.length = N) (hn : 1 ≤ N) (hz : N ≤ 4096) (x y : Int) : AC Try.prog 88 1 [.slice (some ⟨0, 0, none⟩) N 0, .agg #[.int .i64 x, .int .i64 y]] [(0, (pB ps))] (.int .i64 (Sp.ixF (Sp.eqTo (x, y)) ps 0)) [(0, (pB ps))] := by
  subst hN
  exact index_ok ps hn hz x y
end Go.Proofs.Ytndkhgfecnbmnaa.Am

namespace Go.Proofs.Ytndkhgfecnbmnaa.Am
open Go Go.Proofs
set_option maxRecDepth 100000
set_option maxHeartbeats 4000000
set_option linter.unusedVariables false
set_option linter.unusedSimpArgs false
theorem concat_ok (ps : List (Int × Int)) (m : Nat) (hm : m < ps.length) (hz : ps.length ≤ 4096) :
    AC Try.prog 25 2 ([sV 1 2]) [(0, (pB ps)), (1, ⟨[.slice (some ⟨0, (0 + m * 2), none⟩) (ps.length - m) 0, sV 0 m], 30, true, 1⟩)] (sV 2 ps.length) [(0, (pB ps)), (1, ⟨[.slice (some ⟨0, (0 + m * 2), none⟩) (ps.length - m) 0, sV 0 m], 30, true, 1⟩), (2, (pB (Sp.rotL ps m)))] := by
  refine ac_in Try.func25 (fun w0 W pin => ?_)
  refine aw_p 3 (
    .a 1 3 <| .nil _ _) ?_
  refine aw_p 7 (
    .a 1 3 <| .nil _ _) ?_
  refine aw_sq 14 15 ?_
  refine aw_p 29 (
    .a 3 3 <| .nil _ _) ?_
  refine aw_bl 0 59 ?_
  refine aw_lp 119 ?_
  refine al_round ?_
  refine aw_p 239 (
    .a 1 3 <| .nil _ _) ?_
  refine aw_sq 478 479 ?_
  refine aw_tr 956 ?_
  refine aw_sk ?_
  refine then_normal ?_
  refine aw_sq 958 959 ?_
  refine aw_bl 1 1917 ?_
  refine aw_p 3835 (
    .a 3 3 <| .nil _ _) ?_
  refine aw_p 7671 (
    .a 3 3 <| .p (does_i (0 + (((ps.length - m) : Nat) : Int)) (wrap_i64 (by omega) (by omega)) .i64) <| .a 1 3 <| .nil _ _) ?_
  refine aw_p 15343 (
    .a 1 3 <| .p (does_b false ((show (decide ((0 + (((ps.length - m) : Nat) : Int)) < 0)) = false from decide_eq_false (by omega)))) <| .nil _ _) ?_
  refine aw_fl 30687 ?_
  refine aw_sk ?_
  refine block_normal ?_
  refine then_normal ?_
  refine aw_p1 (
    .a 2 3 <| .nil _ _) ?_
  refine then_normal ?_
  refine al_round ?_
  refine aw_p 239 (
    .a 1 3 <| .nil _ _) ?_
  refine aw_sq 478 479 ?_
  refine aw_tr 956 ?_
  refine aw_sk ?_
  refine then_normal ?_
  refine aw_sq 958 959 ?_
  refine aw_bl 1 1917 ?_
  refine aw_p 3835 (
    .a 3 3 <| .nil _ _) ?_
  refine aw_p 7671 (
    .a 3 3 <| .p (does_i ((0 + (((ps.length - m) : Nat) : Int)) + ((m : Nat) : Int)) (wrap_i64 (by omega) (by omega)) .i64) <| .a 1 3 <| .nil _ _) ?_
  refine aw_p 15343 (
    .a 1 3 <| .p (does_b false ((show (decide (((0 + (((ps.length - m) : Nat) : Int)) + ((m : Nat) : Int)) < 0)) = false from decide_eq_false (by omega)))) <| .nil _ _) ?_
  refine aw_fl 30687 ?_
  refine aw_sk ?_
  refine block_normal ?_
  refine then_normal ?_
  refine aw_p1 (
    .a 2 3 <| .nil _ _) ?_
  refine then_normal ?_
  refine al_round ?_
  refine aw_p 239 (
    .a 1 3 <| .nil _ _) ?_
  refine aw_sq 478 479 ?_
  refine aw_fl 957 ?_
  refine aw_ex 0 ?_
  refine then_exit ?_
  refine then_exit ?_
  refine block_exit ?_
  refine then_normal ?_
  refine aw_p 31 (
    .a 1 3 <|
    .p (cF #[.const (.slice none 0 0), .tmp 23] #[30, 3] [.slice none 0 0, .int .i64 ((0 + (((ps.length - m) : Nat) : Int)) + ((m : Nat) : Int))] 1 [3] [] [(3, ⟨[], 28, true, 2⟩)] (sV 3 0) (grow_ok ps.length ((0 + (((ps.length - m) : Nat) : Int)) + ((m : Nat) : Int)) (by omega) (by omega) (by omega)) (.flats (by kernel_rfl)) trivial ⟨rfl, ⟨rfl, rfl, rfl, (.flats (by kernel_rfl))⟩, trivial⟩ rS) <|
    .a 1 4 <| .nil _ _) ?_
  refine aw_sq 62 63 ?_
  refine aw_p 125 (
    .a 3 4 <| .nil _ _) ?_
  refine aw_bl 2 251 ?_
  refine aw_lp 503 ?_
  refine al_round ?_
  refine aw_p 1007 (
    .a 1 4 <| .nil _ _) ?_
  refine aw_sq 2014 2015 ?_
  refine aw_tr 4028 ?_
  refine aw_sk ?_
  refine then_normal ?_
  refine aw_sq 4030 4031 ?_
  refine aw_bl 3 8061 ?_
  refine aw_p 16123 (
    .a 3 4 <| .nil _ _) ?_
  refine aw_p1 (
    .a 2 4 <|
    .p (does_apg (ps.length - m) 4 28 2 16 3 0 0 (0 + m * 2) (ps.length - m) ⟨[], 28, true, 2⟩ (pB ps) ((ps.drop m).flatMap ptc) (by kernel_rfl) (by kernel_rfl) (by kernel_rfl) (by kernel_rfl) (by kernel_rfl) (plain_pairs _) (by rw [Nat.zero_mul]; exact Nat.zero_le _) (by show _ ≤ (ps.flatMap ptc).length; rw [pairs_length]; omega) (.inl (by omega)) (by omega) (by omega) (by show List.take _ [] ++ ((ps.flatMap ptc).drop _).take _ = _; rw [cut_pairs (j := m) (k := ps.length - m) (by omega) (by omega), List.take_nil, List.nil_append, List.take_of_length_le (by simp)]) (by omega)) <|
    .a 1 5 <| .nil _ _) ?_
  refine block_normal ?_
  refine then_normal ?_
  refine aw_p1 (
    .a 2 5 <| .nil _ _) ?_
  refine then_normal ?_
  refine al_round ?_
  refine aw_p 1007 (
    .a 1 5 <| .nil _ _) ?_
  refine aw_sq 2014 2015 ?_
  refine aw_tr 4028 ?_
  refine aw_sk ?_
  refine then_normal ?_
  refine aw_sq 4030 4031 ?_
  refine aw_bl 3 8061 ?_
  refine aw_p 16123 (
    .a 3 5 <| .nil _ _) ?_
  refine aw_p1 (
    .a 2 5 <|
    .p (does_apg ps.length 2 28 2 16 4 (ps.length - m) 0 0 m (pB (ps.drop m)) (pB ps) ((Sp.rotL ps m).flatMap ptc) (by kernel_rfl) (by kernel_rfl) (by kernel_rfl) (by kernel_rfl) (by kernel_rfl) (plain_pairs _) (by show _ ≤ ((ps.drop m).flatMap ptc).length; rw [pairs_length, List.length_drop]; omega) (by show _ ≤ (ps.flatMap ptc).length; rw [pairs_length]; omega) (.inr ⟨by omega, by show ((ps.drop m).flatMap ptc).length = _; rw [pairs_length, List.length_drop]; omega⟩) (by omega) (by omega) (by show ((ps.drop m).flatMap ptc).take _ ++ ((ps.flatMap ptc).drop _).take _ = _; rw [cut_pairs (j := 0) (k := m) (by omega) (by omega), List.drop_zero, List.take_of_length_le (by rw [pairs_length, List.length_drop]; omega), ← List.flatMap_append]; rfl) (by omega)) <|
    .a 1 5 <| .nil _ _) ?_
  refine block_normal ?_
  refine then_normal ?_
  refine aw_p1 (
    .a 2 5 <| .nil _ _) ?_
  refine then_normal ?_
  refine al_round ?_
  refine aw_p 1007 (
    .a 1 5 <| .nil _ _) ?_
  refine aw_sq 2014 2015 ?_
  refine aw_fl 4029 ?_
  refine aw_ex 2 ?_
  refine then_exit ?_
  refine then_exit ?_
  refine block_exit ?_
  refine then_normal ?_
  refine aw_p 127 (
    .a 2 5 <| .nil _ _) ?_
  refine aw_rt ?_
  exact en_ret [sV 2 ps.length] (by kernel_rfl)
theorem concat_n (ps : List (Int × Int)) (N m : Nat) (hN : ps.length = N) (hm : m < N) (hz : N ≤ 4096) : AC Try.prog 25 2 [.slice (some ⟨1, 0, none⟩) 2 0] [(0, (pB ps)), (1, ⟨[.slice (some ⟨0, (0 + m * 2), none⟩) (N - m) 0, sV 0 m], 30, true, 1⟩)] (.slice (some ⟨2, 0, none⟩) N 0) [(0, (pB ps)), (1, ⟨[.slice (some ⟨0, (0 + m * 2), none⟩) (N - m) 0, sV 0 m], 30, true, 1⟩), (2, (pB (Sp.rotL ps m)))] := by
  subst hN
  exact concat_ok ps m hm hz
end Go.Proofs.Ytndkhgfecnbmnaa.Am

set_option linter.unusedVariables false
set_option linter.unusedSimpArgs false
namespace Go.Proofs.Ytndkhgfecnbmnaa.Am.Sp
open Go
theorem sq_area {x y r : Int} (h1 : 1 ≤ r) (h2 : r ≤ 20) (hx : -40 ≤ x - r ∧ x + r ≤ 40) (hy : -40 ≤ y - r ∧ y + r ≤ 40) : twF (sqr x y r) 1 0 = 8 * (r * r) ∧ twF (hol x y r) 1 0 = -(8 * (r * r)) := by
  have f := few_sqr (x := x) (y := y) (r := r) (m := 40) (by omega) (by omega) (by omega)
  constructor
  · rw [(twF_area f.1 (by simp [sqr])).1]
    unfold areaN
    simp only [sqr, List.length_cons, List.length_nil, sumN, trE, trp, cA, cB, List.getD_cons_zero, List.getD_cons_succ, Nat.zero_add, Nat.reduceAdd, Nat.reduceMod]
    rw [lim_id (by omega) (by omega), lim_id (by omega) (by omega), lim_id (by omega) (by omega), lim_id (by omega) (by omega)]
    grind
  · rw [(twF_area f.2 (by simp [hol])).1]
    unfold areaN
    simp only [hol, List.length_cons, List.length_nil, sumN, trE, trp, cA, cB, List.getD_cons_zero, List.getD_cons_succ, Nat.zero_add, Nat.reduceAdd, Nat.reduceMod]
    rw [lim_id (by omega) (by omega), lim_id (by omega) (by omega), lim_id (by omega) (by omega), lim_id (by omega) (by omega)]
    grind
theorem sq_least {x y r : Int} (h1 : 1 ≤ r) : Least (sqr x y r) 0 ∧ Least (hol x y r) 0 := by
  have b : ∀ a c : Int × Int, befP a c = false ↔ ¬ (a.1 < c.1 ∨ (a.1 = c.1 ∧ a.2 < c.2)) := fun a c => by rw [← befP_iff]; simp
  constructor
  · intro j hj
    have hj' : j < 4 := hj
    rw [b]
    rcases (show j = 0 ∨ j = 1 ∨ j = 2 ∨ j = 3 by omega) with rfl | rfl | rfl | rfl <;> simp only [sqr, List.getD_cons_zero, List.getD_cons_succ] <;> omega
  · intro j hj
    have hj' : j < 4 := hj
    rw [b]
    rcases (show j = 0 ∨ j = 1 ∨ j = 2 ∨ j = 3 by omega) with rfl | rfl | rfl | rfl <;> simp only [hol, List.getD_cons_zero, List.getD_cons_succ] <;> omega
theorem sq_norm {x y r : Int} (h1 : 1 ≤ r) (h2 : r ≤ 20) (hx : -40 ≤ x - r ∧ x + r ≤ 40) (hy : -40 ≤ y - r ∧ y + r ≤ 40) : nrmL (sqr x y r) 0 = sqr x y r ∧ nrmL (hol x y r) 0 = sqr x y r := by
  have a := sq_area h1 h2 hx hy
  have p : 1 ≤ r * r := by have := Int.mul_le_mul h1 h1 (by omega) (by omega); omega
  constructor
  · rw [nrm_pl (by omega), rot_zero]
  · rw [nrm_rev (q := 3) (by omega) (by simp [hol])]
    simp [rotL, hol, sqr]
end Go.Proofs.Ytndkhgfecnbmnaa.Am.Sp
set_option linter.unusedVariables false
set_option linter.unusedSimpArgs false
namespace Go.Proofs.Ytndkhgfecnbmnaa.Am.Sp
open Go
end Go.Proofs.Ytndkhgfecnbmnaa.Am.Sp
set_option linter.unusedVariables false
set_option linter.unusedSimpArgs false
namespace Go.Proofs.Ytndkhgfecnbmnaa.Am.Sp
open Go
section
variable {x y r k j d : Int}
end
/-- squares are small -/
theorem sq_small {r : Int} (h0 : 0 ≤ r) (h1 : r ≤ 40) : 0 ≤ r * r ∧ r * r ≤ 1600 := ⟨Int.mul_nonneg h0 h0, by have := Int.mul_le_mul h1 h1 h0 (by omega); omega⟩
theorem pcmp_one {a b c d : Int} (h : c < a) : pcmp a b c d = 1 := by rw [pcmp_form, if_neg (by omega), if_pos h]
end Go.Proofs.Ytndkhgfecnbmnaa.Am.Sp
set_option linter.unusedVariables false
set_option linter.unusedSimpArgs false
namespace Go.Proofs.Ytndkhgfecnbmnaa.Am.Sp
open Go
section
variable {x y r k j d : Int}
theorem sq_bd {r : Int} (h0 : 0 ≤ r) (h1 : r ≤ 40) : (-100000 ≤ 8 * (r * r) ∧ 8 * (r * r) ≤ 100000) ∧ (-100000 ≤ -(8 * (r * r)) ∧ -(8 * (r * r)) ≤ 100000) := by
  have := sq_small h0 h1; omega
theorem pc_1 {a b a' b' : Int} (h : a < a') : pcmp a' b' a b = 1 := pcmp_one h
end
end Go.Proofs.Ytndkhgfecnbmnaa.Am.Sp

namespace Go.Proofs.Ytndkhgfecnbmnaa.Am
open Go Go.Proofs
set_option maxRecDepth 100000
set_option maxHeartbeats 4000000
set_option linter.unusedVariables false
set_option linter.unusedSimpArgs false
theorem norm_own (ps : List (Int × Int)) (m : Nat) (hn : 1 ≤ ps.length) (hz : ps.length ≤ 4096) (hm : m < ps.length) (hd : Sp.Diff ps) (hl : ∀ j, j < ps.length → Sp.befP (ps.getD j (0, 0)) (ps.getD m (0, 0)) = false) :
    AC Try.prog 40 1 ([sV 0 ps.length]) [(0, (pB ps))] (sV 1 ps.length) [(0, (pB ps)), (1, (pB (Sp.nrmL ps m)))] := by
  refine ac_in Try.func40 (fun w0 W pin => ?_)
  refine aw_p 3 (
    .a 1 2 <| .nil _ _) ?_
  refine aw_p 7 (
    .a 1 2 <| .p (cF #[.tmp 5] #[30] [sV 0 ps.length] 1 [0, 2] [(0, (pB ps))] [(0, (pB ps)), (2, (pB ps))] (sV 2 ps.length) (clone_own ps (by omega) (by omega)) (.cons rS .nil) ⟨rfl, bP, trivial⟩ ⟨rfl, bP, rfl, bP, trivial⟩ rS) <| .a 1 3 <| .nil _ _) ?_
  refine aw_sq 14 15 ?_
  refine aw_p 29 (
    .a 2 3 <| .p (does_b false ((show (((ps.length : Nat) : Int) == 0) = false from by rw [beq_eq_false_iff_ne]; omega))) <| .nil _ _) ?_
  refine aw_fl 59 ?_
  refine aw_sk ?_
  refine then_normal ?_
  refine aw_sq 30 31 ?_
  refine aw_p 61 (
    .a 1 3 <| .p (cS #[.tmp 10] #[30] [sV 2 ps.length] [2] [(2, (pB ps))] (.int .i64 (Sp.twF ps 1 0)) (twicen_own ps ps.length (rfl) (by first | omega | decide)) (.cons rS .nil) ⟨rfl, bP, trivial⟩ rF) <| .a 1 3 <| .nil _ _) ?_
  refine aw_cd 122 123 (decide ((Sp.twF ps 1 0) < 0)) (fun h1 => ?_) (fun h1 => ?_)
  · have h1p : (((Sp.twF ps 1 0) < 0)) := by first | (simpa using h1) | (have h1q := h1; simp at h1q; omega) | (have h1q := bx1 h1; simp at h1q; omega)
    have ht : Sp.twF ps 1 0 < 0 := by simpa using h1
    obtain ⟨q, hq⟩ : ∃ q, ps.length - 1 - m = q := ⟨_, rfl⟩
    refine aw_p1 (
      .a 1 3 <| .p (cF #[.tmp 13] #[30] [sV 2 ps.length] 0 [2] [(2, (pB ps))] [(2, (pB ps.reverse))] (.tuple #[]) (rev_ok ps (by omega) (by omega)) (.cons rS .nil) ⟨rfl, bP, trivial⟩ ⟨rfl, bP, trivial⟩ rF) <| .nil _ _) ?_
    refine then_normal ?_
    refine aw_p 63 (
      .a 2 3 <|
      .p (cS #[.tmp 16, .func 68] #[30, 82] [sV 2 ps.length, .func (.func 68) #[] #[]] [2] [(2, (pB ps.reverse))] (.agg #[.int .i64 ((Sp.mnP ps.reverse (ps.length - 1)).1), .int .i64 ((Sp.mnP ps.reverse (ps.length - 1)).2)]) (minf_n ps.reverse ps.length (by first | rfl | simp) (by omega) (by omega)) (.cons rS (.cons rF .nil)) ⟨rfl, bP, trivial⟩ rF) <|
      .p (does_int (n' := ((q : Nat) : Int)) (cS #[.tmp 15, .tmp 17] #[30, 28] [sV 2 ps.length, .agg #[.int .i64 ((Sp.mnP ps.reverse (ps.length - 1)).1), .int .i64 ((Sp.mnP ps.reverse (ps.length - 1)).2)]] [2] [(2, (pB ps.reverse))] (.int .i64 (Sp.ixF (Sp.eqTo ((Sp.mnP ps.reverse (ps.length - 1)).1, (Sp.mnP ps.reverse (ps.length - 1)).2)) ps.reverse 0)) (index_n ps.reverse ps.length (by first | rfl | simp) (by omega) (by omega) ((Sp.mnP ps.reverse (ps.length - 1)).1) ((Sp.mnP ps.reverse (ps.length - 1)).2)) (.cons rS (.cons rF .nil)) ⟨rfl, bP, trivial⟩ rF) ((Sp.ix_rev hm hd hl hq))) <|
      .a 1 3 <| .nil _ _) ?_
    refine aw_d 127 (
      .a 2 3 <|
      .p (does_val (v' := .slice (some ⟨2, (0 + q * 2), none⟩) (ps.length - q) 0) (does_slice (t := 30) (x := .tmp 19) (lo := some (.tmp 20)) (hi := none) (k := 2) (off := 0) (n := ps.length) (c := 0) (z := 2) (l := ((q : Nat) : Int)) (h := ((ps.length : Nat) : Int)) (m := (ps.length - q)) (b := (pB ps.reverse)) (by kernel_rfl) (by kernel_rfl) (by kernel_rfl) (by kernel_rfl) (by kernel_rfl) (by kernel_rfl) (by kernel_rfl) (by kernel_rfl) (by omega) (by omega) (by omega) (by omega)) (by kernel_rfl)) <|
      .a 2 3 <|
      .p (does_val (v' := sV 2 q) (does_slice (t := 30) (x := .tmp 22) (lo := none) (hi := some (.tmp 23)) (k := 2) (off := 0) (n := ps.length) (c := 0) (z := 2) (l := 0) (h := ((q : Nat) : Int)) (m := q) (b := (pB ps.reverse)) (by kernel_rfl) (by kernel_rfl) (by kernel_rfl) (by kernel_rfl) (by kernel_rfl) (by kernel_rfl) (by kernel_rfl) (by kernel_rfl) (by omega) (by omega) (by omega) (by omega)) (by kernel_rfl)) <|
      .a 1 3 <|
      .p (cF #[.tmp 25] #[24] [sV 3 2] 1 [2, 3, 4] [(2, (pB ps.reverse)), (3, ⟨[.slice (some ⟨2, (0 + q * 2), none⟩) (ps.length - q) 0, sV 2 q], 30, true, 1⟩)] [(2, (pB ps.reverse)), (3, ⟨[.slice (some ⟨2, (0 + q * 2), none⟩) (ps.length - q) 0, sV 2 q], 30, true, 1⟩), (4, (pB (Sp.rotL ps.reverse q)))] (sV 4 ps.length) (concat_n ps.reverse ps.length q (by first | rfl | simp) (by omega) (by omega)) (.cons rS .nil) ⟨rfl, bP, rfl, ⟨rfl, rfl, rfl, (.cons rS (.cons rS .nil))⟩, trivial⟩ ⟨rfl, bP, rfl, ⟨rfl, rfl, rfl, (.cons rS (.cons rS .nil))⟩, rfl, bP, trivial⟩ rS) <|
      .a 1 5 <| .nil _ _) ?_
    refine aw_w [(0, sV 0 ps.length), (2, sV 4 ps.length), (3, sV 2 ps.length), (4, .int .i64 ((q : Nat) : Int)), (5, sV 0 ps.length), (6, sV 2 ps.length), (7, sV 2 ps.length), (8, .int .i64 ((ps.length : Nat) : Int)), (9, .bool false), (10, sV 2 ps.length), (11, .int .i64 (Sp.twF ps 1 0)), (12, .bool (decide ((Sp.twF ps 1 0) < 0))), (13, sV 2 ps.length), (15, sV 2 ps.length), (16, sV 2 ps.length), (17, .agg #[.int .i64 ((Sp.mnP ps.reverse (ps.length - 1)).1), .int .i64 ((Sp.mnP ps.reverse (ps.length - 1)).2)]), (18, .int .i64 ((q : Nat) : Int)), (19, sV 2 ps.length), (20, .int .i64 ((q : Nat) : Int)), (21, .slice (some ⟨2, (0 + q * 2), none⟩) (ps.length - q) 0), (22, sV 2 ps.length), (23, .int .i64 ((q : Nat) : Int)), (24, sV 2 q), (25, sV 3 2), (26, sV 4 ps.length)] [(0, (pB ps)), (2, (pB ps.reverse)), (3, ⟨[.slice (some ⟨2, (0 + q * 2), none⟩) (ps.length - q) 0, sV 2 q], 30, true, 1⟩), (4, (pB (Sp.nrmL ps m)))] ?_ (by kernel_rfl) (by rw [Sp.nrm_rev ht hq]; kernel_rfl) (hc := (by simp [closedB, valsB, valB, List.all_eq_true, List.mem_flatMap, List.mem_range, List.mem_map, i64v, ptc, flat1]; try (intros; simp [valsB, valB, flat1]); try decide))
    refine aw_r [(1, 4)] [(2, sV 4 ps.length)] [(0, (pB ps)), (4, (pB (Sp.nrmL ps m)))] [(2, sV 1 ps.length)] [(0, (pB ps)), (1, (pB (Sp.nrmL ps m)))] ?_ ⟨rfl, (rK rfl), trivial⟩ ⟨rfl, ⟨rfl, rfl, rfl, (.flats (flats_pair _))⟩, rfl, ⟨rfl, rfl, rfl, (.flats (flats_pair _))⟩, trivial⟩
    refine aw_rt ?_
    exact en_ret [sV 1 ps.length] (by kernel_rfl)
  · have h1p : ¬ (((Sp.twF ps 1 0) < 0)) := by first | (simpa using h1) | (have h1q := h1; simp at h1q; omega) | (have h1q := bx2 h1; simp at h1q; omega)
    have ht : ¬ Sp.twF ps 1 0 < 0 := by simpa using h1
    obtain ⟨q, hq⟩ : ∃ q, ps.length - 1 - m = q := ⟨_, rfl⟩
    refine aw_sk ?_
    refine then_normal ?_
    refine aw_p 63 (
      .a 2 3 <|
      .p (cS #[.tmp 16, .func 68] #[30, 82] [sV 2 ps.length, .func (.func 68) #[] #[]] [2] [(2, (pB ps))] (.agg #[.int .i64 ((Sp.mnP ps (ps.length - 1)).1), .int .i64 ((Sp.mnP ps (ps.length - 1)).2)]) (minf_n ps ps.length (by first | rfl | simp) (by omega) (by omega)) (.cons rS (.cons rF .nil)) ⟨rfl, bP, trivial⟩ rF) <|
      .p (does_int (n' := ((m : Nat) : Int)) (cS #[.tmp 15, .tmp 17] #[30, 28] [sV 2 ps.length, .agg #[.int .i64 ((Sp.mnP ps (ps.length - 1)).1), .int .i64 ((Sp.mnP ps (ps.length - 1)).2)]] [2] [(2, (pB ps))] (.int .i64 (Sp.ixF (Sp.eqTo ((Sp.mnP ps (ps.length - 1)).1, (Sp.mnP ps (ps.length - 1)).2)) ps 0)) (index_n ps ps.length (by first | rfl | simp) (by omega) (by omega) ((Sp.mnP ps (ps.length - 1)).1) ((Sp.mnP ps (ps.length - 1)).2)) (.cons rS (.cons rF .nil)) ⟨rfl, bP, trivial⟩ rF) ((Sp.ix_plain hm hd hl))) <|
      .a 1 3 <| .nil _ _) ?_
    refine aw_d 127 (
      .a 2 3 <|
      .p (does_val (v' := .slice (some ⟨2, (0 + m * 2), none⟩) (ps.length - m) 0) (does_slice (t := 30) (x := .tmp 19) (lo := some (.tmp 20)) (hi := none) (k := 2) (off := 0) (n := ps.length) (c := 0) (z := 2) (l := ((m : Nat) : Int)) (h := ((ps.length : Nat) : Int)) (m := (ps.length - m)) (b := (pB ps)) (by kernel_rfl) (by kernel_rfl) (by kernel_rfl) (by kernel_rfl) (by kernel_rfl) (by kernel_rfl) (by kernel_rfl) (by kernel_rfl) (by omega) (by omega) (by omega) (by omega)) (by kernel_rfl)) <|
      .a 2 3 <|
      .p (does_val (v' := sV 2 m) (does_slice (t := 30) (x := .tmp 22) (lo := none) (hi := some (.tmp 23)) (k := 2) (off := 0) (n := ps.length) (c := 0) (z := 2) (l := 0) (h := ((m : Nat) : Int)) (m := m) (b := (pB ps)) (by kernel_rfl) (by kernel_rfl) (by kernel_rfl) (by kernel_rfl) (by kernel_rfl) (by kernel_rfl) (by kernel_rfl) (by kernel_rfl) (by omega) (by omega) (by omega) (by omega)) (by kernel_rfl)) <|
      .a 1 3 <|
      .p (cF #[.tmp 25] #[24] [sV 3 2] 1 [2, 3, 4] [(2, (pB ps)), (3, ⟨[.slice (some ⟨2, (0 + m * 2), none⟩) (ps.length - m) 0, sV 2 m], 30, true, 1⟩)] [(2, (pB ps)), (3, ⟨[.slice (some ⟨2, (0 + m * 2), none⟩) (ps.length - m) 0, sV 2 m], 30, true, 1⟩), (4, (pB (Sp.rotL ps m)))] (sV 4 ps.length) (concat_n ps ps.length m (by first | rfl | simp) (by omega) (by omega)) (.cons rS .nil) ⟨rfl, bP, rfl, ⟨rfl, rfl, rfl, (.cons rS (.cons rS .nil))⟩, trivial⟩ ⟨rfl, bP, rfl, ⟨rfl, rfl, rfl, (.cons rS (.cons rS .nil))⟩, rfl, bP, trivial⟩ rS) <|
      .a 1 5 <| .nil _ _) ?_
    refine aw_w [(0, sV 0 ps.length), (2, sV 4 ps.length), (3, sV 2 ps.length), (4, .int .i64 ((m : Nat) : Int)), (5, sV 0 ps.length), (6, sV 2 ps.length), (7, sV 2 ps.length), (8, .int .i64 ((ps.length : Nat) : Int)), (9, .bool false), (10, sV 2 ps.length), (11, .int .i64 (Sp.twF ps 1 0)), (12, .bool (decide ((Sp.twF ps 1 0) < 0))), (15, sV 2 ps.length), (16, sV 2 ps.length), (17, .agg #[.int .i64 ((Sp.mnP ps (ps.length - 1)).1), .int .i64 ((Sp.mnP ps (ps.length - 1)).2)]), (18, .int .i64 ((m : Nat) : Int)), (19, sV 2 ps.length), (20, .int .i64 ((m : Nat) : Int)), (21, .slice (some ⟨2, (0 + m * 2), none⟩) (ps.length - m) 0), (22, sV 2 ps.length), (23, .int .i64 ((m : Nat) : Int)), (24, sV 2 m), (25, sV 3 2), (26, sV 4 ps.length)] [(0, (pB ps)), (2, (pB ps)), (3, ⟨[.slice (some ⟨2, (0 + m * 2), none⟩) (ps.length - m) 0, sV 2 m], 30, true, 1⟩), (4, (pB (Sp.nrmL ps m)))] ?_ (by kernel_rfl) (by rw [Sp.nrm_pl ht]; kernel_rfl) (hc := (by simp [closedB, valsB, valB, List.all_eq_true, List.mem_flatMap, List.mem_range, List.mem_map, i64v, ptc, flat1]; try (intros; simp [valsB, valB, flat1]); try decide))
    refine aw_r [(1, 4)] [(2, sV 4 ps.length)] [(0, (pB ps)), (4, (pB (Sp.nrmL ps m)))] [(2, sV 1 ps.length)] [(0, (pB ps)), (1, (pB (Sp.nrmL ps m)))] ?_ ⟨rfl, (rK rfl), trivial⟩ ⟨rfl, ⟨rfl, rfl, rfl, (.flats (flats_pair _))⟩, rfl, ⟨rfl, rfl, rfl, (.flats (flats_pair _))⟩, trivial⟩
    refine aw_rt ?_
    exact en_ret [sV 1 ps.length] (by kernel_rfl)
theorem norm_n (ps qs : List (Int × Int)) (m N : Nat) (hN : ps.length = N) (hn : 1 ≤ N) (hz : N ≤ 4096) (hm : m < N) (hd : Sp.Diff ps) (hl : Sp.Least ps m) (e : Sp.nrmL ps m = qs) : AC Try.prog 40 1 [.slice (some ⟨0, 0, none⟩) N 0] [(0, (pB ps))] (.slice (some ⟨1, 0, none⟩) N 0) [(0, (pB ps)), (1, (pB qs))] := by
  subst hN
  subst e
  exact norm_own ps m hn hz hm hd hl
end Go.Proofs.Ytndkhgfecnbmnaa.Am
