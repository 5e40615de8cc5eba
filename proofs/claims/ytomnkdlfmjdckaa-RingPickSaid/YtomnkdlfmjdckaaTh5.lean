import Derived.Test.YtomnkdlfmjdckaaSq3
import Derived.Test.YtomnkdlfmjdckaaRg5
set_option linter.unusedVariables false
set_option linter.unusedSimpArgs false
namespace Go.Proofs.Ytomnkdlfmjdckaa.Am.Sp
/-! Lines without the points that are near (plain) -/
theorem getD_apl {β : Type} {l l' : List β} {i : Nat} {x : β} (h : i < l.length) : (l ++ l').getD i x = l.getD i x := by
  rw [List.getD_eq_getElem?_getD, List.getD_eq_getElem?_getD, List.getElem?_append_left h]
theorem getD_apr {β : Type} {l l' : List β} {i : Nat} {x : β} (h : l.length ≤ i) : (l ++ l').getD i x = l'.getD (i - l.length) x := by
  rw [List.getD_eq_getElem?_getD, List.getD_eq_getElem?_getD, List.getElem?_append_right h]
section
variable {α : Type} {W : α → α → α → Bool} {d : α → α → α → Int} {z : α}
/-- the first of those points between two that are not near, and farthest -/
def Best (W : α → α → α → Bool) (d : α → α → α → Int) (z : α) (l : List α) (f t m : Nat) : Prop :=
  (f < m ∧ m < t) ∧ W (l.getD m z) (l.getD f z) (l.getD t z) = false ∧
    ∀ i, f < i → i < t → W (l.getD i z) (l.getD f z) (l.getD t z) = false → d (l.getD i z) (l.getD f z) (l.getD t z) ≤ d (l.getD m z) (l.getD f z) (l.getD t z) ∧ (i < m → d (l.getD i z) (l.getD f z) (l.getD t z) < d (l.getD m z) (l.getD f z) (l.getD t z))
inductive Thin (W : α → α → α → Bool) (d : α → α → α → Int) (z : α) (l : List α) : Nat → Nat → List Nat → Prop
  | nil {f t : Nat} (h : f < t) (hn : ∀ i, f < i → i < t → W (l.getD i z) (l.getD f z) (l.getD t z) = true) : Thin W d z l f t []
  | cons {f m t : Nat} {J K : List Nat} (h : Best W d z l f t m) (h1 : Thin W d z l f m J) (h2 : Thin W d z l m t K) : Thin W d z l f t (J ++ m :: K)
theorem Best.uniq {l : List α} {f t m m' : Nat} (h : Best W d z l f t m) (h' : Best W d z l f t m') : m = m' := by
  have a := h.2.2 m' h'.1.1 h'.1.2 h'.2.1
  have b := h'.2.2 m h.1.1 h.1.2 h.2.1
  rcases Nat.lt_trichotomy m m' with c | c | c
  · have := b.2 c; omega
  · exact c
  · have := a.2 c; omega
theorem Thin.lt {l : List α} {f t : Nat} {J : List Nat} (h : Thin W d z l f t J) : f < t := by
  cases h with
  | nil h _ => exact h
  | cons h _ _ => have := h.1; omega
/-- what is kept is strictly between, and rises -/
theorem Thin.rise {l : List α} {f t : Nat} {J : List Nat} (h : Thin W d z l f t J) : (∀ j ∈ J, f < j ∧ j < t) ∧ J.Pairwise (· < ·) := by
  induction h with
  | nil h hn => exact ⟨by simp, .nil⟩
  | @cons f m t J K h h1 h2 i1 i2 =>
    have a := h.1
    refine ⟨fun j hj => ?_, ?_⟩
    · rcases List.mem_append.1 hj with q | q
      · have := i1.1 j q; omega
      · rcases List.mem_cons.1 q with rfl | q
        · exact a
        · have := i2.1 j q; omega
    · refine List.pairwise_append.2 ⟨i1.2, List.pairwise_cons.2 ⟨fun j q => (i2.1 j q).1, i2.2⟩, fun x hx y hy => ?_⟩
      have := i1.1 x hx
      rcases List.mem_cons.1 hy with rfl | q
      · omega
      · have := i2.1 y q; omega
/-- every point between is kept, or near the edge over it -/
theorem Thin.near {l : List α} {f t : Nat} {J : List Nat} (h : Thin W d z l f t J) : ∀ i, f < i → i < t → i ∈ J ∨ ∃ k, k ≤ J.length ∧ W (l.getD i z) (l.getD ((f :: (J ++ [t])).getD k 0) z) (l.getD ((f :: (J ++ [t])).getD (k + 1) 0) z) = true := by
  induction h with
  | nil h hn => intro i a b; exact .inr ⟨0, Nat.le_refl _, hn i a b⟩
  | @cons f m t J K h h1 h2 i1 i2 =>
    intro i a b
    rcases Nat.lt_trichotomy i m with c | c | c
    · rcases i1 i a c with q | ⟨k, hk, q⟩
      · exact .inl (List.mem_append.2 (.inl q))
      · refine .inr ⟨k, by simp; omega, ?_⟩
        have e1 : (f :: (J ++ m :: K ++ [t])).getD k 0 = (f :: (J ++ [m])).getD k 0 := by
          cases k with
          | zero => rfl
          | succ k => simp only [List.getD_cons_succ, List.append_assoc]; rw [getD_apl (by omega), getD_apl (by omega)]
        have e2 : (f :: (J ++ m :: K ++ [t])).getD (k + 1) 0 = (f :: (J ++ [m])).getD (k + 1) 0 := by
          simp only [List.getD_cons_succ, List.append_assoc]
          rcases Nat.lt_or_ge k J.length with g | g
          · rw [getD_apl g, getD_apl g]
          · obtain rfl : k = J.length := by omega
            rw [getD_apr (l := J) (by omega), getD_apr (l := J) (by omega)]; simp
        rw [e1, e2]; exact q
    · exact .inl (by subst c; simp)
    · rcases i2 i c b with q | ⟨k, hk, q⟩
      · exact .inl (List.mem_append.2 (.inr (List.mem_cons_of_mem _ q)))
      · refine .inr ⟨J.length + 1 + k, by simp; omega, ?_⟩
        have e : ∀ k, (f :: (J ++ m :: K ++ [t])).getD (J.length + 1 + k) 0 = (m :: (K ++ [t])).getD k 0 := by
          intro k
          rw [show J.length + 1 + k = (J.length + k) + 1 by omega, List.getD_cons_succ, List.append_assoc, getD_apr (by omega), show J.length + k - J.length = k by omega]; simp
        rw [e k, show J.length + 1 + k + 1 = J.length + 1 + (k + 1) by omega, e (k + 1)]; exact q
theorem Thin.uniq {l : List α} {f t : Nat} {J : List Nat} (h : Thin W d z l f t J) : ∀ {K : List Nat}, Thin W d z l f t K → J = K := by
  induction h with
  | nil h hn =>
    intro K k
    cases k with
    | nil => rfl
    | cons b _ _ => have := hn _ b.1.1 b.1.2; rw [b.2.1] at this; cases this
  | cons h h1 h2 i1 i2 =>
    intro K k
    cases k with
    | nil _ hn => have := hn _ h.1.1 h.1.2; rw [h.2.1] at this; cases this
    | cons b k1 k2 => have e := h.uniq b; subst e; rw [i1 k1, i2 k2]
/-- of the line that is left nothing is left out -/
theorem Thin.idem {l : List α} {f t : Nat} {J : List Nat} (h : Thin W d z l f t J) : ∀ (y : List α) (a : Nat), (∀ k, k ≤ J.length + 1 → y.getD (a + k) z = l.getD ((f :: (J ++ [t])).getD k 0) z) →
    Thin W d z y a (a + J.length + 1) (List.range' (a + 1) J.length) := by
  induction h with
  | nil h hn => intro y a hy; exact .nil (by omega) (fun i h1 h2 => by simp at h2; omega)
  | @cons f m t J K h h1 h2 i1 i2 =>
    intro y a hy
    have R := (Thin.cons h h1 h2).rise
    have g1 : ∀ k, k ≤ J.length + 1 → y.getD (a + k) z = l.getD ((f :: (J ++ [m])).getD k 0) z := by
      intro k hk
      rw [hy k (by simp; omega)]; congr 1
      cases k with
      | zero => rfl
      | succ k =>
        simp only [List.getD_cons_succ, List.append_assoc]
        rcases Nat.lt_or_ge k J.length with g | g
        · rw [getD_apl g, getD_apl g]
        · obtain rfl : k = J.length := by omega
          rw [getD_apr (l := J) (by omega), getD_apr (l := J) (by omega)]; simp
    have e : ∀ k, (f :: (J ++ m :: K ++ [t])).getD (J.length + 1 + k) 0 = (m :: (K ++ [t])).getD k 0 := by
      intro k
      rw [show J.length + 1 + k = (J.length + k) + 1 by omega, List.getD_cons_succ, List.append_assoc, getD_apr (by omega), show J.length + k - J.length = k by omega]; simp
    have g2 : ∀ k, k ≤ K.length + 1 → y.getD (a + J.length + 1 + k) z = l.getD ((m :: (K ++ [t])).getD k 0) z := by
      intro k hk
      rw [show a + J.length + 1 + k = a + (J.length + 1 + k) by omega, hy (J.length + 1 + k) (by simp; omega), e]
    have t1 := i1 y a g1
    have t2 := i2 y (a + J.length + 1) g2
    have hl : (J ++ m :: K).length = J.length + 1 + K.length := by simp; omega
    have er : List.range' (a + 1) (J ++ m :: K).length = List.range' (a + 1) J.length ++ (a + J.length + 1) :: List.range' (a + J.length + 1 + 1) K.length := by
      rw [hl, show J.length + 1 + K.length = J.length + (1 + K.length) by omega, ← List.range'_append, show 1 + K.length = K.length + 1 by omega, List.range'_succ, Nat.one_mul, show a + 1 + J.length = a + J.length + 1 by omega]
    rw [er, show a + (J ++ m :: K).length + 1 = a + J.length + 1 + K.length + 1 by omega]
    refine .cons ?_ t1 t2
    -- the best one is the best one still
    have ym : y.getD (a + J.length + 1) z = l.getD m z := by have := g2 0 (by omega); simpa using this
    have yf : y.getD a z = l.getD f z := by have := g1 0 (by omega); simpa using this
    have yt : y.getD (a + J.length + 1 + K.length + 1) z = l.getD t z := by
      have := g2 (K.length + 1) (by omega)
      rw [show a + J.length + 1 + K.length + 1 = a + J.length + 1 + (K.length + 1) by omega, this, List.getD_cons_succ, getD_apr (by omega)]; simp
    refine ⟨by omega, by rw [ym, yf, yt]; exact h.2.1, fun i hi1 hi2 hw => ?_⟩
    rw [ym, yf, yt] at *
    have yi : y.getD i z = l.getD ((J ++ m :: K).getD (i - a - 1) 0) z := by
      have := hy (i - a) (by rw [hl]; omega)
      rw [show a + (i - a) = i by omega] at this
      rw [this, show i - a = (i - a - 1) + 1 by omega, List.getD_cons_succ, getD_apl (by rw [hl]; omega)]; simp
    have hlt : i - a - 1 < (J ++ m :: K).length := by rw [hl]; omega
    have hb := R.1 _ (List.getElem_mem hlt)
    have ge : (J ++ m :: K).getD (i - a - 1) 0 = (J ++ m :: K)[i - a - 1] := by rw [List.getD_eq_getElem?_getD, List.getElem?_eq_getElem hlt]; rfl
    rw [yi, ge] at hw ⊢
    have b := h.2.2 _ hb.1 hb.2 hw
    refine ⟨b.1, fun q => b.2 ?_⟩
    have hm : (J ++ m :: K)[J.length]'(by rw [hl]; omega) = m := by simp
    have := List.pairwise_iff_getElem.1 R.2 (i - a - 1) J.length hlt (by rw [hl]; omega) (by omega)
    rw [hm] at this; exact this
end
end Go.Proofs.Ytomnkdlfmjdckaa.Am.Sp

set_option linter.unusedVariables false
set_option linter.unusedSimpArgs false
namespace Go.Proofs.Ytomnkdlfmjdckaa.Am.Sp
/-! Lines without the points that are near: what the program computes -/
def dq (px py ax ay bx b_y : Int) : Int := sqn px py ax ay bx b_y * Int.tdiv (mx 1 (dot ax ay bx b_y bx b_y)) (sqd px py ax ay bx b_y)
def farB (px py qx qy ax ay bx b_y : Int) : Bool := decide (dq qx qy ax ay bx b_y < dq px py ax ay bx b_y)
def wtP (tol : Int) (p a b : Int × Int) : Bool := wthn p.1 p.2 a.1 a.2 b.1 b.2 (mx tol 0)
def dqP (p a b : Int × Int) : Int := dq p.1 p.2 a.1 a.2 b.1 b.2
def ThinP (ps : List (Int × Int)) (tol : Int) (f t : Nat) (J : List Nat) : Prop := Thin (wtP tol) dqP (0, 0) ps f t J
def wq (ps : List (Int × Int)) (tol : Int) (f t i : Nat) : Bool := wthn (ps.getD i (0, 0)).1 (ps.getD i (0, 0)).2 (ps.getD f (0, 0)).1 (ps.getD f (0, 0)).2 (ps.getD t (0, 0)).1 (ps.getD t (0, 0)).2 (mx tol 0)
def fq (ps : List (Int × Int)) (f t i m : Nat) : Bool := farB (ps.getD i (0, 0)).1 (ps.getD i (0, 0)).2 (ps.getD m (0, 0)).1 (ps.getD m (0, 0)).2 (ps.getD f (0, 0)).1 (ps.getD f (0, 0)).2 (ps.getD t (0, 0)).1 (ps.getD t (0, 0)).2
/-- the best so far of n points, and one; 0: none -/
def scn (ps : List (Int × Int)) (tol : Int) (f t : Nat) : Nat → Nat
  | 0 => 0
  | n + 1 => if wq ps tol f t (f + n + 1) = false ∧ (scn ps tol f t n = 0 ∨ fq ps f t (f + n + 1) (scn ps tol f t n - 1) = true) then f + n + 2 else scn ps tol f t n
section
variable {ps : List (Int × Int)} {tol : Int} {f t e b : Nat}
theorem scn_step (he : f < e) : scn ps tol f t (e + 1 - (f + 1)) = if wq ps tol f t e = false ∧ (scn ps tol f t (e - (f + 1)) = 0 ∨ fq ps f t e (scn ps tol f t (e - (f + 1)) - 1) = true) then e + 1 else scn ps tol f t (e - (f + 1)) := by
  obtain ⟨n, rfl⟩ : ∃ n, e = f + n + 1 := ⟨e - f - 1, by omega⟩
  rw [show f + n + 1 + 1 - (f + 1) = n + 1 by omega, show f + n + 1 - (f + 1) = n by omega]; rfl
theorem scn_near (he : f < e) (hb : scn ps tol f t (e - (f + 1)) = b) (hw : wthn (ps.getD e (0, 0)).1 (ps.getD e (0, 0)).2 (ps.getD f (0, 0)).1 (ps.getD f (0, 0)).2 (ps.getD t (0, 0)).1 (ps.getD t (0, 0)).2 (mx tol 0) = true) : scn ps tol f t (e + 1 - (f + 1)) = b := by
  have hw : wq ps tol f t e = true := hw
  rw [scn_step he, if_neg (by rw [hw]; simp), hb]
theorem scn_first (he : f < e) (hb : scn ps tol f t (e - (f + 1)) = b) (hw : wthn (ps.getD e (0, 0)).1 (ps.getD e (0, 0)).2 (ps.getD f (0, 0)).1 (ps.getD f (0, 0)).2 (ps.getD t (0, 0)).1 (ps.getD t (0, 0)).2 (mx tol 0) = false) (h0 : b = 0) : scn ps tol f t (e + 1 - (f + 1)) = e + 1 := by
  have hw : wq ps tol f t e = false := hw
  rw [scn_step he, if_pos ⟨hw, .inl (hb.trans h0)⟩]
theorem scn_far (he : f < e) (hb : scn ps tol f t (e - (f + 1)) = b) (hw : wthn (ps.getD e (0, 0)).1 (ps.getD e (0, 0)).2 (ps.getD f (0, 0)).1 (ps.getD f (0, 0)).2 (ps.getD t (0, 0)).1 (ps.getD t (0, 0)).2 (mx tol 0) = false) (hf : farB (ps.getD e (0, 0)).1 (ps.getD e (0, 0)).2 (ps.getD (b - 1) (0, 0)).1 (ps.getD (b - 1) (0, 0)).2 (ps.getD f (0, 0)).1 (ps.getD f (0, 0)).2 (ps.getD t (0, 0)).1 (ps.getD t (0, 0)).2 = true) : scn ps tol f t (e + 1 - (f + 1)) = e + 1 := by
  have hw : wq ps tol f t e = false := hw
  rw [scn_step he, if_pos ⟨hw, .inr (by rw [hb]; exact hf)⟩]
theorem scn_keep (he : f < e) (hb : scn ps tol f t (e - (f + 1)) = b) (h1 : b ≠ 0) (hf : farB (ps.getD e (0, 0)).1 (ps.getD e (0, 0)).2 (ps.getD (b - 1) (0, 0)).1 (ps.getD (b - 1) (0, 0)).2 (ps.getD f (0, 0)).1 (ps.getD f (0, 0)).2 (ps.getD t (0, 0)).1 (ps.getD t (0, 0)).2 = false) : scn ps tol f t (e + 1 - (f + 1)) = b := by
  have hf : fq ps f t e (b - 1) = false := hf
  rw [scn_step he, hb, if_neg (by rintro ⟨_, h | h⟩; exact h1 h; rw [hf] at h; cases h)]
theorem scn_all (n : Nat) : (scn ps tol f t n = 0 → ∀ i, f < i → i ≤ f + n → wq ps tol f t i = true) ∧ (scn ps tol f t n ≠ 0 → (f < scn ps tol f t n - 1 ∧ scn ps tol f t n - 1 ≤ f + n) ∧ wq ps tol f t (scn ps tol f t n - 1) = false ∧
    ∀ i, f < i → i ≤ f + n → wq ps tol f t i = false → fq ps f t i (scn ps tol f t n - 1) = false ∧ (i < scn ps tol f t n - 1 → fq ps f t (scn ps tol f t n - 1) i = true)) := by
  induction n with
  | zero => exact ⟨fun _ i h1 h2 => by omega, fun h => (h rfl).elim⟩
  | succ n ih =>
    simp only [scn]
    split
    · rename_i h
      refine ⟨fun q => by omega, fun _ => ?_⟩
      rw [show f + n + 2 - 1 = f + n + 1 by omega]
      refine ⟨by omega, h.1, fun i h1 h2 hw => ?_⟩
      rcases Nat.eq_or_lt_of_le h2 with c | c
      · subst c; exact ⟨by unfold fq farB; rw [show f + (n + 1) = f + n + 1 from rfl]; exact decide_eq_false (Int.lt_irrefl _), fun q => by omega⟩
      · have key : fq ps f t (f + n + 1) i = true := by
          rcases Nat.eq_zero_or_pos (scn ps tol f t n) with z | z
          · rw [ih.1 z i h1 (by omega)] at hw; cases hw
          · have k := ((ih.2 (by omega)).2.2 i h1 (by omega) hw).1
            have g := h.2.resolve_left (by omega)
            simp only [fq, farB, decide_eq_true_eq, decide_eq_false_iff_not] at *; omega
        refine ⟨?_, fun _ => key⟩
        simp only [fq, farB, decide_eq_true_eq, decide_eq_false_iff_not] at *; omega
    · rename_i h
      refine ⟨fun z i h1 h2 => ?_, fun z => ?_⟩
      · rcases Nat.eq_or_lt_of_le h2 with c | c
        · subst c
          rcases Bool.eq_false_or_eq_true (wq ps tol f t (f + (n + 1))) with q | q
          · exact q
          · exact (h ⟨q, .inl z⟩).elim
        · exact ih.1 z i h1 (by omega)
      · obtain ⟨a1, a2, a3⟩ := ih.2 z
        refine ⟨by omega, a2, fun i h1 h2 hw => ?_⟩
        rcases Nat.eq_or_lt_of_le h2 with c | c
        · subst c
          refine ⟨?_, fun q => by omega⟩
          rcases Bool.eq_false_or_eq_true (fq ps f t (f + (n + 1)) (scn ps tol f t n - 1)) with q | q
          · exact (h ⟨hw, .inr q⟩).elim
          · exact q
        · exact a3 i h1 (by omega) hw
theorem scn_best (hz : scn ps tol f t (t - (f + 1)) ≠ 0) (hft : f < t) : Best (wtP tol) dqP (0, 0) ps f t (scn ps tol f t (t - (f + 1)) - 1) := by
  obtain ⟨a1, a2, a3⟩ := (scn_all (ps := ps) (tol := tol) (f := f) (t := t) (t - (f + 1))).2 hz
  refine ⟨by omega, a2, fun i h1 h2 hw => ?_⟩
  have := a3 i h1 (by omega) hw
  simp only [fq, farB, decide_eq_true_eq, decide_eq_false_iff_not] at this
  simp only [dqP]; omega
theorem scn_nil (h : ThinP ps tol f t []) : scn ps tol f t (t - (f + 1)) = 0 := by
  rcases Nat.eq_zero_or_pos (scn ps tol f t (t - (f + 1))) with z | z
  · exact z
  · have hft := Thin.lt h
    have b := scn_best (ps := ps) (tol := tol) (by omega) hft
    generalize hJ : ([] : List Nat) = J at h
    cases h with
    | nil _ hn => have := hn _ b.1.1 b.1.2; rw [b.2.1] at this; cases this
    | cons => simp at hJ
theorem scn_cons {m : Nat} (h : Best (wtP tol) dqP (0, 0) ps f t m) : scn ps tol f t (t - (f + 1)) = m + 1 := by
  rcases Nat.eq_zero_or_pos (scn ps tol f t (t - (f + 1))) with z | z
  · have := (scn_all (ps := ps) (tol := tol) (f := f) (t := t) (t - (f + 1))).1 z m h.1.1 (by have := h.1; omega)
    have q : wq ps tol f t m = false := h.2.1
    rw [q] at this; cases this
  · have hft : f < t := by have := h.1; omega
    have := (scn_best (ps := ps) (tol := tol) (by omega) hft).uniq h; omega
end
theorem thin_ex (ps : List (Int × Int)) (tol : Int) : ∀ (n f t : Nat), f < t → t - f ≤ n → ∃ J, ThinP ps tol f t J := by
  intro n
  induction n with
  | zero => intro f t h1 h2; omega
  | succ n ih =>
    intro f t h1 h2
    rcases Nat.eq_zero_or_pos (scn ps tol f t (t - (f + 1))) with z | z
    · exact ⟨[], .nil h1 (fun i a b => (scn_all (ps := ps) (tol := tol) (f := f) (t := t) (t - (f + 1))).1 z i a (by omega))⟩
    · have b := scn_best (ps := ps) (tol := tol) (by omega) h1
      obtain ⟨J, hJ⟩ := ih f _ b.1.1 (by have := b.1; omega)
      obtain ⟨K, hK⟩ := ih _ t b.1.2 (by have := b.1; omega)
      exact ⟨_, .cons b hJ hK⟩
/-! what is kept -/
def setJ (kp : List Bool) (J : List Nat) : List Bool := (List.range kp.length).map (fun i => kp.getD i false || decide (i ∈ J))
theorem setJ_len (kp J) : (setJ kp J).length = kp.length := by simp [setJ]
theorem setJ_get {kp : List Bool} {J : List Nat} {i : Nat} (h : i < kp.length) : (setJ kp J).getD i false = (kp.getD i false || decide (i ∈ J)) := by
  rw [List.getD_eq_getElem?_getD, setJ, List.getElem?_map, List.getElem?_range h]; rfl
theorem ext_bool {a b : List Bool} (hl : a.length = b.length) (h : ∀ i, i < a.length → a.getD i false = b.getD i false) : a = b := by
  apply List.ext_getElem hl
  intro i h1 h2
  have := h i h1
  rwa [List.getD_eq_getElem?_getD, List.getD_eq_getElem?_getD, List.getElem?_eq_getElem h1, List.getElem?_eq_getElem h2] at this
theorem setJ_nil (kp : List Bool) : setJ kp [] = kp := by
  refine ext_bool (setJ_len _ _) (fun i h => ?_)
  rw [setJ_len] at h; rw [setJ_get h]; simp
theorem setJ_cons {kp : List Bool} {J K : List Nat} {m : Nat} (hm : m < kp.length) : setJ (setJ (kp.set m true) J) K = setJ kp (J ++ m :: K) := by
  refine ext_bool (by simp [setJ_len]) (fun i h => ?_)
  simp only [setJ_len, List.length_set] at h
  rw [setJ_get (by rw [setJ_len, List.length_set]; exact h), setJ_get (by rw [List.length_set]; exact h), setJ_get h]
  have e : (kp.set m true).getD i false = (kp.getD i false || decide (i = m)) := by
    rw [List.getD_eq_getElem?_getD, List.getElem?_set, List.getD_eq_getElem?_getD]
    by_cases c : m = i
    · subst c; simp [hm]
    · rw [if_neg c]; simp [Ne.symm c]
  rw [e]
  by_cases c1 : i ∈ J <;> by_cases c2 : i = m <;> by_cases c3 : i ∈ K <;> simp [c1, c2, c3]
/-- the points of a line that are kept, of the first n -/
def slF (ps : List (Int × Int)) (kp : List Bool) : Nat → List (Int × Int)
  | 0 => []
  | n + 1 => if kp.getD n false = true then slF ps kp n ++ [ps.getD n (0, 0)] else slF ps kp n
theorem slF_y {ps kp n} (h : kp.getD n false = true) : slF ps kp (n + 1) = slF ps kp n ++ [ps.getD n (0, 0)] := by rw [slF, if_pos h]
theorem slF_n {ps kp n} (h : kp.getD n false = false) : slF ps kp (n + 1) = slF ps kp n := by rw [slF, if_neg (by rw [h]; simp)]
theorem slF_len (ps kp n) : (slF ps kp n).length ≤ n := by
  induction n with
  | zero => exact Nat.le_refl _
  | succ n ih => rw [slF]; split <;> (first | (rw [List.length_append]; simp; omega) | omega)
theorem slF_eq (ps kp n) : slF ps kp n = ((List.range n).filter (fun i => kp.getD i false)).map (fun i => ps.getD i (0, 0)) := by
  induction n with
  | zero => rfl
  | succ n ih =>
    rw [slF, List.range_succ, List.filter_append, List.map_append, ← ih]
    by_cases h : kp.getD n false = true
    · rw [if_pos h, List.filter_cons, if_pos h]; rfl
    · rw [if_neg h, List.filter_cons, if_neg h]; simp
theorem filter_rise (n : Nat) : ∀ (s : Nat) (L : List Nat), (∀ j ∈ L, s ≤ j ∧ j < s + n) → L.Pairwise (· < ·) → (List.range' s n).filter (fun i => decide (i ∈ L)) = L := by
  induction n with
  | zero => intro s L h _; cases L with
    | nil => rfl
    | cons a r => have := h a (by simp); omega
  | succ n ih =>
    intro s L h hp
    rw [List.range'_succ]
    by_cases hs : s ∈ L
    · rw [List.filter_cons, if_pos (by simpa using hs)]
      cases L with
      | nil => simp at hs
      | cons a r =>
        have hr := List.pairwise_cons.1 hp
        have ha : a = s := by
          rcases List.mem_cons.1 hs with q | q
          · exact q.symm
          · have := hr.1 s q; have := h a (by simp); omega
        subst ha
        have := ih (a + 1) r (fun j hj => by have := hr.1 j hj; have := h j (List.mem_cons_of_mem _ hj); omega) hr.2
        congr 1
        refine Eq.trans (List.filter_congr (fun x hx => ?_)) this
        have := List.mem_range'_1.1 hx
        simp only [List.mem_cons]
        have : x ≠ a := by omega
        simp [this]
    · rw [List.filter_cons, if_neg (by simpa using hs)]
      refine ih (s + 1) L (fun j hj => ?_) hp
      have := h j hj
      have : j ≠ s := fun c => hs (c ▸ hj)
      omega
/-- what is kept at first: both ends -/
def kp0 (n : Nat) : List Bool := ((List.replicate n false).set 0 true).set (n - 1) true
theorem kp0_len (n) : (kp0 n).length = n := by simp [kp0]
theorem kp0_get {n i : Nat} (h : i < n) : (kp0 n).getD i false = (decide (i = 0) || decide (i = n - 1)) := by
  unfold kp0
  rw [List.getD_eq_getElem?_getD, List.getElem?_set, List.getElem?_set]
  simp only [List.length_set, List.length_replicate]
  by_cases c : n - 1 = i
  · rw [if_pos c, if_pos (by omega)]; simp [c]
  · rw [if_neg c]
    by_cases c2 : 0 = i
    · rw [if_pos c2, if_pos (by omega)]; simp [← c2]
    · rw [if_neg c2, List.getElem?_replicate, if_pos h]; simp [Ne.symm c, Ne.symm c2]
def ends (n : Nat) (J : List Nat) : List Nat := 0 :: (J ++ [n - 1])
theorem ends_rise {n : Nat} {J : List Nat} (hn : 2 ≤ n) (h : (∀ j ∈ J, 0 < j ∧ j < n - 1) ∧ J.Pairwise (· < ·)) : (∀ j ∈ ends n J, 0 ≤ j ∧ j < 0 + n) ∧ (ends n J).Pairwise (· < ·) := by
  unfold ends
  refine ⟨fun j hj => ?_, ?_⟩
  · rcases List.mem_cons.1 hj with q | q
    · omega
    · rcases List.mem_append.1 q with q | q
      · have := h.1 j q; omega
      · have := List.mem_singleton.1 q; omega
  · refine List.pairwise_cons.2 ⟨fun x hx => ?_, List.pairwise_append.2 ⟨h.2, List.pairwise_singleton _ _, fun x hx y hy => ?_⟩⟩
    · rcases List.mem_append.1 hx with q | q
      · exact (h.1 x q).1
      · have := List.mem_singleton.1 q; omega
    · have := List.mem_singleton.1 hy; have := h.1 x hx; omega
theorem sl_line {ps : List (Int × Int)} {J : List Nat} {n : Nat} (hn : 2 ≤ n) (h : (∀ j ∈ J, 0 < j ∧ j < n - 1) ∧ J.Pairwise (· < ·)) : slF ps (setJ (kp0 n) J) n = (ends n J).map (fun i => ps.getD i (0, 0)) := by
  have R := ends_rise hn h
  rw [slF_eq]; congr 1
  refine Eq.trans ?_ (filter_rise n 0 (ends n J) R.1 R.2)
  rw [List.range_eq_range']
  refine List.filter_congr (fun x hx => ?_)
  have := List.mem_range'_1.1 hx
  rw [setJ_get (by rw [kp0_len]; omega), kp0_get (by omega)]
  unfold ends
  simp only [List.mem_cons, List.mem_append, List.not_mem_nil, or_false]
  by_cases c1 : x = 0 <;> by_cases c2 : x ∈ J <;> by_cases c3 : x = n - 1 <;> simp [c1, c2, c3]
/-- a line and what is left of it -/
def Lined (tol : Int) (ps ys : List (Int × Int)) : Prop := (ps.length < 3 ∧ ys = ps) ∨ (3 ≤ ps.length ∧ ∃ J, ThinP ps tol 0 (ps.length - 1) J ∧ ys = (ends ps.length J).map (fun i => ps.getD i (0, 0)))
theorem lined_ex (tol : Int) (ps) : ∃ ys, Lined tol ps ys := by
  by_cases h : ps.length < 3
  · exact ⟨ps, .inl ⟨h, rfl⟩⟩
  · obtain ⟨J, hJ⟩ := thin_ex ps tol _ 0 (ps.length - 1) (by omega) (Nat.le_refl _)
    exact ⟨_, .inr ⟨by omega, J, hJ, rfl⟩⟩
theorem self_map {ys : List (Int × Int)} : (List.range' 0 ys.length).map (fun i => ys.getD i (0, 0)) = ys := by
  apply List.ext_getElem (by simp)
  intro i h1 h2
  simp only [List.getElem_map, List.getElem_range', Nat.zero_add, Nat.one_mul]
  rw [List.getD_eq_getElem?_getD, List.getElem?_eq_getElem h2]; rfl
theorem map_getD {f : Nat → Int × Int} {L : List Nat} {k : Nat} (h : k < L.length) : (L.map f).getD k (0, 0) = f (L.getD k 0) := by
  rw [List.getD_eq_getElem?_getD, List.getElem?_map, List.getD_eq_getElem?_getD, List.getElem?_eq_getElem h]; rfl
theorem ends_len (n J) : (ends n J).length = J.length + 2 := by simp [ends]
theorem Lined.idem {tol : Int} {ps ys : List (Int × Int)} (h : Lined tol ps ys) : Lined tol ys ys := by
  rcases h with ⟨h, rfl⟩ | ⟨h, J, hJ, e⟩
  · exact .inl ⟨h, rfl⟩
  · have hl : ys.length = J.length + 2 := by rw [e, List.length_map, ends_len]
    rcases Nat.eq_zero_or_pos J.length with z | z
    · exact .inl ⟨by omega, rfl⟩
    · have q := Thin.idem hJ ys 0 (fun k hk => by
        rw [Nat.zero_add, e, map_getD (by rw [ends_len]; omega)]; rfl)
      refine .inr ⟨by omega, List.range' 1 J.length, ?_, ?_⟩
      · rw [show ys.length - 1 = 0 + J.length + 1 by omega]; exact q
      · have : ends ys.length (List.range' 1 J.length) = List.range' 0 ys.length := by
          unfold ends
          rw [hl, show J.length + 2 = (J.length + 1) + 1 by omega, List.range'_succ, ← List.range'_append (m := J.length) (n := 1)]
          simp; omega
        rw [this, self_map]
theorem lined_uniq {tol : Int} {ps ys zs : List (Int × Int)} (h : Lined tol ps ys) (h' : Lined tol ps zs) : ys = zs := by
  rcases h with ⟨h, rfl⟩ | ⟨h, J, hJ, e⟩ <;> rcases h' with ⟨g, rfl⟩ | ⟨g, K, hK, e'⟩
  · rfl
  · omega
  · omega
  · rw [e, e', Thin.uniq hJ hK]
end Go.Proofs.Ytomnkdlfmjdckaa.Am.Sp

set_option linter.unusedVariables false
set_option linter.unusedSimpArgs false
namespace Go.Proofs.Ytomnkdlfmjdckaa.Am.Sp
/-! Lines without the points that are near: what the law asks -/
theorem wthn_left {px py bx b_y k : Int} (hk : 0 ≤ k) : wthn px py px py bx b_y k = true := by
  have e : dot px py bx b_y px py = 0 := by unfold dot; simp
  have e2 : dot px py px py px py = 0 := by unfold dot; simp
  unfold wthn sqn sqd
  rw [e, if_pos (by omega), if_pos (by omega), e2, Int.mul_one]
  have : 0 ≤ mn k 4194304 := by unfold mn; split <;> omega
  simp [hk, Int.mul_nonneg this this]
theorem wthn_right {px py ax ay k : Int} (hk : 0 ≤ k) : wthn px py ax ay px py k = true := by
  have e2 : dot px py px py px py = 0 := by unfold dot; simp
  have h0 : 0 ≤ mn k 4194304 * mn k 4194304 := by
    have : 0 ≤ mn k 4194304 := by unfold mn; split <;> omega
    exact Int.mul_nonneg this this
  unfold wthn sqn sqd
  by_cases h : dot ax ay px py px py ≤ 0
  · rw [if_pos h, if_pos h, Int.mul_one]; simp [hk]; omega
  · rw [if_neg h, if_neg h, if_pos (Int.le_refl _), if_pos (Int.le_refl _), e2, Int.mul_one]; simp [hk, h0]
theorem near_self {ys : List (Int × Int)} {k : Int} (hk : 0 ≤ k) (h2 : 2 ≤ ys.length) {i : Nat} (hi : i < ys.length) {p : Int × Int} (hp : ys.getD i (0, 0) = p) :
    ∃ j, j + 1 < ys.length ∧ wthn p.1 p.2 (ys.getD j (0, 0)).1 (ys.getD j (0, 0)).2 (ys.getD (j + 1) (0, 0)).1 (ys.getD (j + 1) (0, 0)).2 k = true := by
  by_cases c : i + 1 < ys.length
  · exact ⟨i, c, by rw [hp]; exact wthn_left hk⟩
  · refine ⟨i - 1, by omega, ?_⟩
    rw [show i - 1 + 1 = i by omega, hp]; exact wthn_right hk
theorem mem_getD {ps : List (Int × Int)} {i : Nat} (h : i < ps.length) : ps.getD i (0, 0) ∈ ps := by
  rw [List.getD_eq_getElem?_getD, List.getElem?_eq_getElem h]; exact List.getElem_mem h
theorem Lined.facts {tol : Int} {ps ys : List (Int × Int)} (h : Lined tol ps ys) (h2 : 2 ≤ ps.length) (h0 : 0 ≤ tol) : (2 ≤ ys.length ∧ ys.length ≤ ps.length) ∧ ys.getD 0 (0, 0) = ps.getD 0 (0, 0) ∧ ys.getD (ys.length - 1) (0, 0) = ps.getD (ps.length - 1) (0, 0) ∧ (∀ q ∈ ys, q ∈ ps) ∧
    ∀ i, i < ps.length → ∃ j, j + 1 < ys.length ∧ wthn (ps.getD i (0, 0)).1 (ps.getD i (0, 0)).2 (ys.getD j (0, 0)).1 (ys.getD j (0, 0)).2 (ys.getD (j + 1) (0, 0)).1 (ys.getD (j + 1) (0, 0)).2 tol = true := by
  rcases h with ⟨h, rfl⟩ | ⟨h, J, hJ, e⟩
  · exact ⟨⟨h2, Nat.le_refl _⟩, rfl, rfl, fun q hq => hq, fun i hi => near_self h0 h2 hi rfl⟩
  · have R := Thin.rise hJ
    have E := ends_rise (n := ps.length) (by omega) R
    have hl : ys.length = J.length + 2 := by rw [e, List.length_map, ends_len]
    have hy : ∀ k, k < J.length + 2 → ys.getD k (0, 0) = ps.getD ((ends ps.length J).getD k 0) (0, 0) := by
      intro k hk; rw [e, map_getD (by rw [ends_len]; exact hk)]
    have last : (ends ps.length J).getD (J.length + 1) 0 = ps.length - 1 := by
      unfold ends; rw [List.getD_cons_succ, getD_apr (by omega)]; simp
    have hle : ys.length ≤ ps.length := by
      rw [e, List.length_map, ← filter_rise ps.length 0 (ends ps.length J) E.1 E.2]
      exact Nat.le_trans (List.length_filter_le _ _) (by simp)
    refine ⟨⟨by omega, hle⟩, ?_, ?_, fun q hq => ?_, fun i hi => ?_⟩
    · rw [hy 0 (by omega)]; rfl
    · rw [hy _ (by omega), show ys.length - 1 = J.length + 1 by omega, last]
    · rw [e] at hq
      obtain ⟨i, hi, rfl⟩ := List.mem_map.1 hq
      exact mem_getD (by have := E.1 i hi; omega)
    · by_cases c : i ∈ ends ps.length J
      · obtain ⟨k, hk, hki⟩ := List.getElem_of_mem c
        rw [ends_len] at hk
        refine near_self h0 (by omega) (i := k) (by omega) ?_
        have q : (ends ps.length J).getD k 0 = i := by
          rw [List.getD_eq_getElem?_getD, List.getElem?_eq_getElem (by rw [ends_len]; exact hk)]; exact hki
        rw [hy k hk, q]
      · have c0 : i ≠ 0 := fun q => c (by subst q; simp [ends])
        have c1 : i ≠ ps.length - 1 := fun q => c (by unfold ends; rw [← q]; simp)
        rcases Thin.near hJ i (by omega) (by omega) with q | ⟨k, hk, q⟩
        · exact (c (by unfold ends; simp [q])).elim
        · refine ⟨k, by omega, ?_⟩
          rw [hy k (by omega), hy (k + 1) (by omega)]
          have m : mx tol 0 = tol := by unfold mx; split <;> omega
          unfold wtP at q; rw [m] at q; exact q
theorem few_sub {m : Int} {ps ys : List (Int × Int)} (hm : 0 ≤ m) (h : Few m ps) (hs : ∀ q ∈ ys, q ∈ ps) : Few m ys := few_of hm (fun q hq => few_mem h (hs q hq))
/-! how far: bounds -/
theorem far_eq (x y : Int) : decide (cmp x y > 0) = decide (y < x) := by
  rw [Bool.eq_iff_iff, decide_eq_true_eq, decide_eq_true_eq]; unfold cmp; split <;> (try split) <;> omega
theorem dq_bd {px py ax ay bx b_y : Int} (pxl : -1048576 ≤ px) (pxu : px ≤ 1048576) (pyl : -1048576 ≤ py) (pyu : py ≤ 1048576)
    (axl : -1048576 ≤ ax) (axu : ax ≤ 1048576) (ayl : -1048576 ≤ ay) (ayu : ay ≤ 1048576) (bxl : -1048576 ≤ bx) (bxu : bx ≤ 1048576) (b_yl : -1048576 ≤ b_y) (b_yu : b_y ≤ 1048576) :
    ((0 ≤ sqn px py ax ay bx b_y ∧ sqn px py ax ay bx b_y ≤ 77371252455336267181195264) ∧ (1 ≤ sqd px py ax ay bx b_y ∧ sqd px py ax ay bx b_y ≤ 8796093022208)) ∧
    ((1 ≤ mx 1 (dot ax ay bx b_y bx b_y) ∧ mx 1 (dot ax ay bx b_y bx b_y) ≤ 8796093022208) ∧
    (0 ≤ Int.tdiv (mx 1 (dot ax ay bx b_y bx b_y)) (sqd px py ax ay bx b_y) ∧ Int.tdiv (mx 1 (dot ax ay bx b_y bx b_y)) (sqd px py ax ay bx b_y) ≤ 8796093022208)) ∧
    0 ≤ sqn px py ax ay bx b_y * Int.tdiv (mx 1 (dot ax ay bx b_y bx b_y)) (sqd px py ax ay bx b_y) ∧ sqn px py ax ay bx b_y * Int.tdiv (mx 1 (dot ax ay bx b_y bx b_y)) (sqd px py ax ay bx b_y) ≤ 77371252455336267181195264 := by
  have S := sq_bd px py ax ay bx b_y pxl pxu pyl pyu axl axu ayl ayu bxl bxu b_yl b_yu
  have A := sq_all pxl pxu pyl pyu axl axu ayl ayu bxl bxu b_yl b_yu
  have D := dot_bd2 axl axu ayl ayu bxl bxu b_yl b_yu
  have M : 1 ≤ mx 1 (dot ax ay bx b_y bx b_y) ∧ mx 1 (dot ax ay bx b_y bx b_y) ≤ 8796093022208 := by unfold mx; split <;> omega
  have C : sqd px py ax ay bx b_y = 1 ∨ sqd px py ax ay bx b_y = mx 1 (dot ax ay bx b_y bx b_y) := by
    unfold sqd mx
    split
    · exact .inl rfl
    · split
      · exact .inl rfl
      · right; split <;> omega
  have T : Int.tdiv (mx 1 (dot ax ay bx b_y bx b_y)) (sqd px py ax ay bx b_y) = mx 1 (dot ax ay bx b_y bx b_y) / sqd px py ax ay bx b_y := Int.tdiv_eq_ediv_of_nonneg (by omega)
  rw [T]
  refine ⟨S, ⟨M, ?_⟩, ?_⟩
  · rcases C with c | c
    · rw [c, Int.ediv_one]; omega
    · rw [c, Int.ediv_self (by omega)]; omega
  · rcases C with c | c
    · rw [c] at A
      rw [c, Int.ediv_one]
      have := mul_bd (a := sqn px py ax ay bx b_y) (b := mx 1 (dot ax ay bx b_y bx b_y)) (A := 8796093022208) (B := 8796093022208) (by omega) (by omega) (by omega) (by omega)
      have := Int.mul_nonneg A.1.1 (show 0 ≤ mx 1 (dot ax ay bx b_y bx b_y) by omega)
      omega
    · rw [c, Int.ediv_self (by omega), Int.mul_one]; omega
/-! Bool -/
theorem nbf {b : Bool} (h : (!b) = false) : b = true := by simpa using h
theorem nbt {b : Bool} (h : (!b) = true) : b = false := by simpa using h
/-! all points with numbers within bounds -/
def lmP (p : Int × Int) : Int × Int := (lim 1048576 p.1, lim 1048576 p.2)
theorem few_lim (ps : List (Int × Int)) : Few 1048576 (ps.map lmP) := by
  refine few_of (by decide) (fun q hq => ?_)
  obtain ⟨p, _, rfl⟩ := List.mem_map.1 hq
  exact ⟨lim_bd (by decide) _, lim_bd (by decide) _⟩
theorem lim_few {m : Int} {ps : List (Int × Int)} (hm : m ≤ 1048576) (h : Few m ps) : ps.map lmP = ps := by
  refine Eq.trans (List.map_congr_left (fun q hq => ?_)) (List.map_id _)
  have := few_mem h hq
  show (lim 1048576 q.1, lim 1048576 q.2) = q
  rw [lim_id (by omega) (by omega), lim_id (by omega) (by omega)]
theorem slF_ylen {ps kp n} (h : kp.getD n false = true) : (slF ps kp (n + 1)).length = (slF ps kp n).length + 1 := by rw [slF_y h]; simp
theorem Lined.sl {tol : Int} {qs ys : List (Int × Int)} {J : List Nat} (h : 3 ≤ qs.length) (hJ : ThinP qs tol 0 (qs.length - 1) J) (e : ys = (ends qs.length J).map (fun i => qs.getD i (0, 0))) : slF qs (setJ (kp0 qs.length) J) qs.length = ys := by
  rw [e]; exact sl_line (by omega) (Thin.rise hJ)
theorem nl_next {ys : List (Int × Int)} {i k : Nat} {x y b : Int} (hi : 1 ≤ i ∧ i ≤ k + 1) (h : wthn x y (ys.getD (i - 1) (0, 0)).1 (ys.getD (i - 1) (0, 0)).2 (ys.getD i (0, 0)).1 (ys.getD i (0, 0)).2 b = false)
    (hw : wthn x y (ys.getD k (0, 0)).1 (ys.getD k (0, 0)).2 (ys.getD (k + 1) (0, 0)).1 (ys.getD (k + 1) (0, 0)).2 b = true) : i + 1 ≤ k + 1 := by
  rcases Nat.lt_or_ge i (k + 1) with c | c
  · exact c
  · obtain rfl : i = k + 1 := by omega
    rw [Nat.add_sub_cancel, hw] at h; cases h
end Go.Proofs.Ytomnkdlfmjdckaa.Am.Sp

set_option linter.unusedVariables false
set_option linter.unusedSimpArgs false
namespace Go.Proofs.Ytomnkdlfmjdckaa.Am.Sp
/-! Lines drawn out of numbers -/
def lptP (xs : List Int) (k : Nat) : Int × Int := (xs.getD (2 * k) 0 % 81 - 40, xs.getD (2 * k + 1) 0 % 81 - 40)
def lpt (xs : List Int) : Nat → Int × Int
  | 0 => lptP xs 0
  | k + 1 => if lptP xs (k + 1) = lpt xs k then ((lptP xs (k + 1)).1 + 1, (lptP xs (k + 1)).2) else lptP xs (k + 1)
def lnL (xs : List Int) (n : Nat) : List (Int × Int) := (List.range n).map (lpt xs)
theorem lnL_len (xs n) : (lnL xs n).length = n := by simp [lnL]
theorem lnL_few (xs n) : Few 41 (lnL xs n) := by
  refine few_of (by decide) (fun q hq => ?_)
  obtain ⟨k, _, rfl⟩ := List.mem_map.1 hq
  have a := Int.emod_nonneg (xs.getD (2 * k) 0) (b := 81) (by decide)
  have b := Int.emod_lt_of_pos (xs.getD (2 * k) 0) (b := 81) (by decide)
  have c := Int.emod_nonneg (xs.getD (2 * k + 1) 0) (b := 81) (by decide)
  have d := Int.emod_lt_of_pos (xs.getD (2 * k + 1) 0) (b := 81) (by decide)
  cases k with
  | zero => unfold lpt lptP; simp only [] at *; omega
  | succ k =>
    unfold lpt lptP
    split <;> (simp only [] at *; omega)
theorem lnL_get {xs : List Int} {n i : Nat} (h : i < n) : (lnL xs n).getD i (0, 0) = lpt xs i := by
  unfold lnL
  rw [List.getD_eq_getElem?_getD, List.getElem?_map, List.getElem?_range h]; rfl
theorem lnL_snoc {xs : List Int} {i : Nat} {p : Int × Int} (h : lpt xs i = p) : lnL xs i ++ [p] = lnL xs (i + 1) := by
  unfold lnL; rw [List.range_succ, List.map_append, ← h]; rfl
theorem lpt_eq {xs : List Int} {i : Nat} (h1 : 1 ≤ i) (h : ((xs.getD (2 * i) 0 % 81 - 40 == ((lnL xs i).getD (i - 1) (0, 0)).1) && ((xs.getD (2 * i + 1) 0 % 81 - 40 == ((lnL xs i).getD (i - 1) (0, 0)).2) && true)) = true) : lpt xs i = (xs.getD (2 * i) 0 % 81 - 40 + 1, xs.getD (2 * i + 1) 0 % 81 - 40) := by
  obtain ⟨k, rfl⟩ : ∃ k, i = k + 1 := ⟨i - 1, by omega⟩
  rw [lnL_get (by omega), Nat.add_sub_cancel] at h
  simp only [Bool.and_true, Bool.and_eq_true, beq_iff_eq] at h
  unfold lpt
  rw [if_pos (show lptP xs (k + 1) = lpt xs k from Prod.ext h.1 h.2)]; rfl
theorem lpt_ne {xs : List Int} {i : Nat} (h1 : 1 ≤ i) (h : ((xs.getD (2 * i) 0 % 81 - 40 == ((lnL xs i).getD (i - 1) (0, 0)).1) && ((xs.getD (2 * i + 1) 0 % 81 - 40 == ((lnL xs i).getD (i - 1) (0, 0)).2) && true)) = false) : lpt xs i = (xs.getD (2 * i) 0 % 81 - 40, xs.getD (2 * i + 1) 0 % 81 - 40) := by
  obtain ⟨k, rfl⟩ : ∃ k, i = k + 1 := ⟨i - 1, by omega⟩
  rw [lnL_get (by omega), Nat.add_sub_cancel] at h
  unfold lpt
  rw [if_neg (fun q => ?_)]
  · rfl
  · rw [← q] at h
    unfold lptP at h
    simp at h
end Go.Proofs.Ytomnkdlfmjdckaa.Am.Sp

set_option linter.unusedVariables false
set_option linter.unusedSimpArgs false
namespace Go.Proofs.Ytomnkdlfmjdckaa.Am.Sp
/-! Lines without the points that are near: the document's way, stretch by stretch -/
def nrB (px py qx qy ax ay bx b_y : Int) : Bool := decide (sqn px py ax ay bx b_y * sqd qx qy ax ay bx b_y - sqn qx qy ax ay bx b_y * sqd px py ax ay bx b_y < 0)
theorem nr_eq {px py qx qy ax ay bx b_y : Int} (pxl : -1048576 ≤ px) (pxu : px ≤ 1048576) (pyl : -1048576 ≤ py) (pyu : py ≤ 1048576) (qxl : -1048576 ≤ qx) (qxu : qx ≤ 1048576) (qyl : -1048576 ≤ qy) (qyu : qy ≤ 1048576)
    (axl : -1048576 ≤ ax) (axu : ax ≤ 1048576) (ayl : -1048576 ≤ ay) (ayu : ay ≤ 1048576) (bxl : -1048576 ≤ bx) (bxu : bx ≤ 1048576) (b_yl : -1048576 ≤ b_y) (b_yu : b_y ≤ 1048576) : nrB px py qx qy ax ay bx b_y = farB qx qy px py ax ay bx b_y := by
  have key : ∀ x y : Int, (sqd x y ax ay bx b_y = 1 ∨ sqd x y ax ay bx b_y = mx 1 (dot ax ay bx b_y bx b_y)) := fun x y => by
    unfold sqd mx
    split
    · exact .inl rfl
    · split
      · exact .inl rfl
      · right; split <;> omega
  have M : 1 ≤ mx 1 (dot ax ay bx b_y bx b_y) := by unfold mx; split <;> omega
  have kp := key px py
  have kq := key qx qy
  unfold nrB farB dq
  rw [Bool.eq_iff_iff, decide_eq_true_eq, decide_eq_true_eq]
  generalize mx 1 (dot ax ay bx b_y bx b_y) = D at *
  generalize sqn px py ax ay bx b_y = P at *
  generalize sqn qx qy ax ay bx b_y = Q at *
  rcases kp with kp | kp <;> rcases kq with kq | kq <;> rw [kp, kq]
  · rw [Int.tdiv_one]
    have : P * D - Q * D < 0 ↔ P * 1 - Q * 1 < 0 := by
      constructor
      · intro h
        apply Classical.byContradiction
        intro hn
        have := Int.mul_le_mul_of_nonneg_right (show Q ≤ P by omega) (show 0 ≤ D by omega)
        omega
      · intro h
        have := Int.mul_lt_mul_of_pos_right (show P < Q by omega) (show 0 < D by omega)
        omega
    omega
  · rw [Int.tdiv_one, Int.tdiv_self (by omega)]; omega
  · rw [Int.tdiv_one, Int.tdiv_self (by omega)]; omega
  · rw [Int.tdiv_self (by omega)]
    have : P * D - Q * D < 0 ↔ P * 1 - Q * 1 < 0 := by
      constructor
      · intro h
        apply Classical.byContradiction
        intro hn
        have := Int.mul_le_mul_of_nonneg_right (show Q ≤ P by omega) (show 0 ≤ D by omega)
        omega
      · intro h
        have := Int.mul_lt_mul_of_pos_right (show P < Q by omega) (show 0 < D by omega)
        omega
    omega
theorem mx_comm (a b : Int) : mx a b = mx b a := by unfold mx; (repeat' split) <;> omega
/-- the best of the last k points ahead of t, and one; 0: none -/
def scd (ps : List (Int × Int)) (tol : Int) (f t : Nat) : Nat → Nat
  | 0 => 0
  | k + 1 => if wq ps tol f t (t - (k + 1)) = false ∧ (scd ps tol f t k = 0 ∨ fq ps f t (scd ps tol f t k - 1) (t - (k + 1)) = false) then t - (k + 1) + 1 else scd ps tol f t k
section
variable {ps : List (Int × Int)} {tol : Int} {f t i b : Nat}
theorem scd_step (hi : i < t) : scd ps tol f t (t - i) = if wq ps tol f t i = false ∧ (scd ps tol f t (t - (i + 1)) = 0 ∨ fq ps f t (scd ps tol f t (t - (i + 1)) - 1) i = false) then i + 1 else scd ps tol f t (t - (i + 1)) := by
  obtain ⟨k, hk⟩ : ∃ k, t - (i + 1) = k := ⟨_, rfl⟩
  rw [show t - i = k + 1 by omega, hk, scd, show t - (k + 1) = i by omega]
theorem scd_near (hi : i < t) (hb : scd ps tol f t (t - (i + 1)) = b) (hw : wq ps tol f t i = true) : scd ps tol f t (t - i) = b := by
  rw [scd_step hi, if_neg (by rw [hw]; simp), hb]
theorem scd_first (hi : i < t) (hb : scd ps tol f t (t - (i + 1)) = b) (hw : wq ps tol f t i = false) (h0 : b = 0) : scd ps tol f t (t - i) = i + 1 := by
  rw [scd_step hi, if_pos ⟨hw, .inl (hb.trans h0)⟩]
theorem scd_far (hi : i < t) (hb : scd ps tol f t (t - (i + 1)) = b) (hw : wq ps tol f t i = false) (hf : fq ps f t (b - 1) i = false) : scd ps tol f t (t - i) = i + 1 := by
  rw [scd_step hi, if_pos ⟨hw, .inr (by rw [hb]; exact hf)⟩]
theorem scd_keep (hi : i < t) (hb : scd ps tol f t (t - (i + 1)) = b) (h1 : b ≠ 0) (hf : fq ps f t (b - 1) i = true) : scd ps tol f t (t - i) = b := by
  rw [scd_step hi, hb, if_neg (by rintro ⟨_, h | h⟩; exact h1 h; rw [hf] at h; cases h)]
theorem scd_all : ∀ k, k < t → (scd ps tol f t k = 0 → ∀ i, t - k ≤ i → i < t → wq ps tol f t i = true) ∧ (scd ps tol f t k ≠ 0 → (t - k ≤ scd ps tol f t k - 1 ∧ scd ps tol f t k - 1 < t) ∧ wq ps tol f t (scd ps tol f t k - 1) = false ∧
    ∀ i, t - k ≤ i → i < t → wq ps tol f t i = false → fq ps f t i (scd ps tol f t k - 1) = false ∧ (i < scd ps tol f t k - 1 → fq ps f t (scd ps tol f t k - 1) i = true))
  | 0, _ => ⟨fun _ i h1 h2 => by omega, fun h => (h rfl).elim⟩
  | k + 1, hk => by
    have ih := scd_all k (by omega)
    simp only [scd]
    split
    · rename_i h
      refine ⟨fun q => by omega, fun _ => ?_⟩
      rw [show t - (k + 1) + 1 - 1 = t - (k + 1) by omega]
      refine ⟨by omega, h.1, fun i h1 h2 hw => ?_⟩
      by_cases c : i = t - (k + 1)
      · subst c; exact ⟨decide_eq_false (Int.lt_irrefl _), fun q => by omega⟩
      · refine ⟨?_, fun q => by omega⟩
        rcases Nat.eq_zero_or_pos (scd ps tol f t k) with z | z
        · rw [ih.1 z i (by omega) h2] at hw; cases hw
        · have k1 := ((ih.2 (by omega)).2.2 i (by omega) h2 hw).1
          have g := h.2.resolve_left (by omega)
          simp only [fq, farB, decide_eq_true_eq, decide_eq_false_iff_not] at *; omega
    · rename_i h
      refine ⟨fun z i h1 h2 => ?_, fun z => ?_⟩
      · by_cases c : i = t - (k + 1)
        · subst c
          rcases Bool.eq_false_or_eq_true (wq ps tol f t (t - (k + 1))) with q | q
          · exact q
          · exact (h ⟨q, .inl z⟩).elim
        · exact ih.1 z i (by omega) h2
      · obtain ⟨a1, a2, a3⟩ := ih.2 z
        refine ⟨by omega, a2, fun i h1 h2 hw => ?_⟩
        by_cases c : i = t - (k + 1)
        · subst c
          have hf : fq ps f t (scd ps tol f t k - 1) (t - (k + 1)) = true := by
            rcases Bool.eq_false_or_eq_true (fq ps f t (scd ps tol f t k - 1) (t - (k + 1))) with q | q
            · exact q
            · exact (h ⟨hw, .inr q⟩).elim
          refine ⟨?_, fun _ => hf⟩
          simp only [fq, farB, decide_eq_true_eq, decide_eq_false_iff_not] at *; omega
        · exact a3 i (by omega) h2 hw
theorem scd_best (hz : scd ps tol f t (t - (f + 1)) ≠ 0) (hft : f < t) : Best (wtP tol) dqP (0, 0) ps f t (scd ps tol f t (t - (f + 1)) - 1) := by
  obtain ⟨a1, a2, a3⟩ := (scd_all (ps := ps) (tol := tol) (f := f) (t := t) (t - (f + 1)) (by omega)).2 hz
  refine ⟨by omega, a2, fun i h1 h2 hw => ?_⟩
  have := a3 i (by omega) h2 hw
  simp only [fq, farB, decide_eq_true_eq, decide_eq_false_iff_not] at this
  simp only [dqP]; omega
theorem scd_none (hz : scd ps tol f t (t - (f + 1)) = 0) (hft : f < t) : ∀ i, f < i → i < t → wtP tol (ps.getD i (0, 0)) (ps.getD f (0, 0)) (ps.getD t (0, 0)) = true :=
  fun i h1 h2 => (scd_all (ps := ps) (tol := tol) (f := f) (t := t) (t - (f + 1)) (by omega)).1 hz i (by omega) h2
end
/-! the stretches that are still to be looked at -/
def nI (l : List Nat) : List Int := l.map (fun n : Nat => (n : Int))
inductive Que (ps : List (Int × Int)) (tol : Int) : List (Int × Int) → List Nat → Prop
  | nil : Que ps tol [] []
  | cons {f t : Nat} {J M : List Nat} {td : List (Int × Int)} (h : ThinP ps tol f t J) (ht : t < ps.length) (q : Que ps tol td M) : Que ps tol (((f : Int), (t : Int)) :: td) (J ++ M)
theorem Que.snoc {ps : List (Int × Int)} {tol : Int} {td : List (Int × Int)} {M : List Nat} (q : Que ps tol td M) {f t : Nat} {J : List Nat} (h : ThinP ps tol f t J) (ht : t < ps.length) : Que ps tol (td ++ [((f : Int), (t : Int))]) (M ++ J) := by
  induction q with
  | nil => have := Que.cons h ht .nil; simpa using this
  | cons h' ht' q ih => rw [List.append_assoc]; exact .cons h' ht' ih
def wgt : List (Int × Int) → Nat
  | [] => 0
  | p :: r => (2 * (p.2 - p.1).toNat - 1) + wgt r
theorem wgt_snoc (l : List (Int × Int)) (p : Int × Int) : wgt (l ++ [p]) = wgt l + (2 * (p.2 - p.1).toNat - 1) := by
  induction l with
  | nil => simp [wgt]
  | cons a r ih => rw [List.cons_append, wgt, ih, wgt]; omega
/-- the state of the document's loop: what is kept, what is to be looked at -/
def Stt (ps : List (Int × Int)) (tol : Int) (L : List Nat) (ks : List Nat) (td : List (Int × Int)) : Prop := ∃ M, Que ps tol td M ∧ (ks ++ M).Perm L
theorem Stt.front {ps : List (Int × Int)} {tol : Int} {L ks : List Nat} {td : List (Int × Int)} (h : Stt ps tol L ks td) (hn : 1 ≤ td.length) : ∃ (f t : Nat) (r : List (Int × Int)) (J : List Nat), td = ((f : Int), (t : Int)) :: r ∧ f < t ∧ t < ps.length ∧ ThinP ps tol f t J ∧ ∃ M, Que ps tol r M ∧ (ks ++ (J ++ M)).Perm L := by
  obtain ⟨M, q, hp⟩ := h
  cases q with
  | nil => simp at hn
  | cons h ht q => exact ⟨_, _, _, _, rfl, Thin.lt h, ht, h, _, q, hp⟩
theorem stt_none {ps : List (Int × Int)} {tol : Int} {L ks J M : List Nat} {r : List (Int × Int)} {f t : Nat} (hJ : ThinP ps tol f t J) (hq : Que ps tol r M) (hp : (ks ++ (J ++ M)).Perm L) (hz : scd ps tol f t (t - (f + 1)) = 0) : Stt ps tol L ks r := by
  have e : J = [] := Thin.uniq hJ (.nil (Thin.lt hJ) (scd_none hz (Thin.lt hJ)))
  subst e
  exact ⟨M, hq, hp⟩
theorem stt_more {ps : List (Int × Int)} {tol : Int} {L ks J M : List Nat} {r : List (Int × Int)} {f t m : Nat} (hJ : ThinP ps tol f t J) (ht : t < ps.length) (hq : Que ps tol r M) (hp : (ks ++ (J ++ M)).Perm L) (hz : scd ps tol f t (t - (f + 1)) = m + 1) :
    (f < m ∧ m < t) ∧ Stt ps tol L (ks ++ [m]) (r ++ [((f : Int), (m : Int)), ((m : Int), (t : Int))]) := by
  have hft := Thin.lt hJ
  have b := scd_best (ps := ps) (tol := tol) (f := f) (t := t) (by omega) hft
  rw [hz, Nat.add_sub_cancel] at b
  obtain ⟨J1, h1⟩ := thin_ex ps tol (m - f) f m b.1.1 (Nat.le_refl _)
  obtain ⟨K1, h2⟩ := thin_ex ps tol (t - m) m t b.1.2 (Nat.le_refl _)
  have e : J = J1 ++ m :: K1 := Thin.uniq hJ (.cons b h1 h2)
  subst e
  have hb := b.1
  refine ⟨b.1, M ++ J1 ++ K1, ?_, ?_⟩
  · have q1 := (hq.snoc h1 (by omega)).snoc h2 ht
    rw [List.append_assoc] at q1
    exact q1
  · refine List.Perm.trans ?_ hp
    rw [List.append_assoc]
    refine List.Perm.append_left ks ?_
    simp only [List.append_assoc, List.cons_append, List.nil_append, List.singleton_append]
    -- m :: (M ++ (J1 ++ K1)) ~ J1 ++ (m :: (K1 ++ M))
    refine List.Perm.trans ?_ (List.perm_middle.symm)
    refine List.Perm.cons m ?_
    refine List.Perm.trans List.perm_append_comm ?_
    rw [List.append_assoc]
theorem stt_end {ps : List (Int × Int)} {tol : Int} {L ks : List Nat} {td : List (Int × Int)} (h : Stt ps tol L ks td) (hn : td.length = 0) : ks.Perm L := by
  obtain ⟨M, q, hp⟩ := h
  have : td = [] := List.length_eq_zero_iff.1 hn
  subst this
  cases q
  rw [List.append_nil] at hp; exact hp
theorem stt_start {ps : List (Int × Int)} {tol : Int} {J : List Nat} (h3 : 3 ≤ ps.length) (hJ : ThinP ps tol 0 (ps.length - 1) J) : Stt ps tol (ends ps.length J) [0, ps.length - 1] [(0, ((ps.length - 1 : Nat) : Int))] := by
  refine ⟨J, ?_, ?_⟩
  · have := Que.cons hJ (by omega) .nil
    simpa using this
  · unfold ends
    refine List.Perm.cons 0 ?_
    exact (List.perm_append_singleton _ _).symm
/-- what is sorted is the line -/
theorem sorted_ends {n : Nat} {J ks : List Nat} (hn : 2 ≤ n) (h : (∀ j ∈ J, 0 < j ∧ j < n - 1) ∧ J.Pairwise (· < ·)) (hp : ks.Perm (ends n J)) : ((nI ks).mergeSort fun x y => decide (x ≤ y)) = nI (ends n J) := by
  have R := ends_rise hn h
  have p1 : ((nI ks).mergeSort fun x y => decide (x ≤ y)).Perm (nI (ends n J)) := (List.mergeSort_perm _ _).trans (hp.map (fun n : Nat => (n : Int)))
  have s1 := List.pairwise_mergeSort (le := fun x y : Int => decide (x ≤ y)) (by intro a b c; simp; omega) (by intro a b; simp; omega) (nI ks)
  have s2 : (nI (ends n J)).Pairwise (fun x y => decide (x ≤ y) = true) := by
    unfold nI
    rw [List.pairwise_map]
    exact R.2.imp (fun k => by simp; omega)
  exact p1.eq_of_pairwise (fun a b _ _ h1 h2 => by simp at h1 h2; omega) s1 s2
theorem stt_len {ps : List (Int × Int)} {tol : Int} {L ks : List Nat} {td : List (Int × Int)} (h : Stt ps tol L ks td) : ks.length ≤ L.length := by
  obtain ⟨M, _, hp⟩ := h
  have := hp.length_eq
  rw [List.length_append] at this; omega
theorem ends_le {ps : List (Int × Int)} {tol : Int} {J : List Nat} (h3 : 3 ≤ ps.length) (hJ : ThinP ps tol 0 (ps.length - 1) J) : (ends ps.length J).length ≤ ps.length := by
  have E := ends_rise (n := ps.length) (by omega) (Thin.rise hJ)
  rw [← filter_rise ps.length 0 (ends ps.length J) E.1 E.2]
  exact Nat.le_trans (List.length_filter_le _ _) (by simp)
theorem front_get {g td r : List (Int × Int)} {x : Int × Int} (h : td = x :: r) : (g ++ td).getD g.length (0, 0) = x := by
  rw [h, List.getD_eq_getElem?_getD, List.getElem?_append_right (Nat.le_refl _)]; simp
theorem nI_snoc (ks : List Nat) (m : Nat) : nI ks ++ [(m : Int)] = nI (ks ++ [m]) := by unfold nI; simp
theorem nI_len (ks : List Nat) : (nI ks).length = ks.length := by unfold nI; simp
theorem nI_get {ks : List Nat} {i : Nat} (h : i < ks.length) : (nI ks).getD i 0 = ((ks.getD i 0 : Nat) : Int) := by
  unfold nI
  rw [List.getD_eq_getElem?_getD, List.getElem?_map, List.getD_eq_getElem?_getD, List.getElem?_eq_getElem h]; rfl
theorem wgt_lt1 {f t : Nat} {r : List (Int × Int)} (h : f < t) : wgt r < wgt (((f : Int), (t : Int)) :: r) := by
  rw [wgt]; simp only []; omega
theorem wgt_lt2 {f m t : Nat} {r : List (Int × Int)} (h1 : f < m) (h2 : m < t) : wgt (r ++ [((f : Int), (m : Int)), ((m : Int), (t : Int))]) < wgt (((f : Int), (t : Int)) :: r) := by
  rw [show r ++ [((f : Int), (m : Int)), ((m : Int), (t : Int))] = (r ++ [((f : Int), (m : Int))]) ++ [((m : Int), (t : Int))] by simp, wgt_snoc, wgt_snoc, wgt]; simp only []; omega
def ptA (qs : List (Int × Int)) (n : Nat) : Int × Int := qs.getD n (0, 0)
theorem ends_lt {ps : List (Int × Int)} {tol : Int} {J : List Nat} (h3 : 3 ≤ ps.length) (hJ : ThinP ps tol 0 (ps.length - 1) J) {i : Nat} (hi : i < (ends ps.length J).length) : (ends ps.length J).getD i 0 < ps.length := by
  have E := ends_rise (n := ps.length) (by omega) (Thin.rise hJ)
  rw [List.getD_eq_getElem?_getD, List.getElem?_eq_getElem hi]
  have := E.1 _ (List.getElem_mem hi)
  show (ends ps.length J)[i] < ps.length
  omega
theorem at_snoc {qs : List (Int × Int)} {es : List Nat} {i : Nat} (h : i < es.length) : (es.take (i + 1)).map (ptA qs) = (es.take i).map (ptA qs) ++ [qs.getD (es.getD i 0) (0, 0)] := by
  have e : es.getD i 0 = es[i] := by rw [List.getD_eq_getElem?_getD, List.getElem?_eq_getElem h]; rfl
  rw [List.take_succ_eq_append_getElem h, List.map_append, e]; rfl
theorem lined_le {tol : Int} {ps ys : List (Int × Int)} (h : Lined tol ps ys) : ys.length ≤ ps.length := by
  rcases h with ⟨_, rfl⟩ | ⟨h, J, hJ, e⟩
  · exact Nat.le_refl _
  · rw [e, List.length_map]; exact ends_le h hJ
end Go.Proofs.Ytomnkdlfmjdckaa.Am.Sp

