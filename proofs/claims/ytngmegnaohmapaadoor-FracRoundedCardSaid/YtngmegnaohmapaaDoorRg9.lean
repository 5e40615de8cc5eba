import Derived.Test.YtngmegnaohmapaaDoorRg8
import Derived.Test.YtngmegnaohmapaaDoorSm
set_option linter.unusedVariables false
set_option linter.unusedSimpArgs false
namespace Go.Proofs.YtngmegnaohmapaaDoor.Am.Sp
open Go
/-! Rings turned around, written from another corner on -/
def sumN (f : Nat → Int) : Nat → Int
  | 0 => 0
  | n + 1 => sumN f n + f n
theorem sumN_congr {f g : Nat → Int} : ∀ {n : Nat}, (∀ i, i < n → f i = g i) → sumN f n = sumN g n
  | 0, _ => rfl
  | n + 1, h => by unfold sumN; rw [sumN_congr (n := n) fun i hi => h i (by omega), h n (by omega)]
theorem sumN_add (f : Nat → Int) (a : Nat) : ∀ b, sumN f (a + b) = sumN f a + sumN (fun i => f (a + i)) b
  | 0 => by simp [sumN]
  | b + 1 => by rw [← Nat.add_assoc, sumN, sumN_add f a b]; simp only [sumN]; omega
theorem sumN_rot (f : Nat → Int) {a n : Nat} (h : a < n) : sumN (fun i => f ((a + i) % n)) n = sumN f n := by
  obtain ⟨b, rfl⟩ : ∃ b, n = b + a := ⟨n - a, by omega⟩
  rw [sumN_add _ b a]
  have e1 : sumN (fun i => f ((a + i) % (b + a))) b = sumN (fun i => f (a + i)) b := sumN_congr fun i hi => by rw [Nat.mod_eq_of_lt (by omega)]
  have e2 : sumN (fun i => f ((a + (b + i)) % (b + a))) a = sumN f a := sumN_congr fun i hi => by rw [show a + (b + i) = i + (b + a) by omega, Nat.add_mod_right, Nat.mod_eq_of_lt (by omega)]
  rw [e1, e2, Nat.add_comm b a, sumN_add f a b]; omega
theorem sumN_front (f : Nat → Int) (n : Nat) : sumN f (n + 1) = f 0 + sumN (fun i => f (i + 1)) n := by
  rw [Nat.add_comm, sumN_add f 1 n]
  simp only [sumN, Int.zero_add]
  congr 1
  exact sumN_congr fun i _ => by rw [Nat.add_comm]
theorem sumN_rev : ∀ (n : Nat) (f : Nat → Int), sumN (fun i => f (n - 1 - i)) n = sumN f n
  | 0, _ => rfl
  | n + 1, f => by
    rw [sumN_front]
    have e : sumN (fun i => f (n + 1 - 1 - (i + 1))) n = sumN (fun i => f (n - 1 - i)) n := sumN_congr fun i hi => by congr 1; omega
    rw [e, sumN_rev n f, sumN, show n + 1 - 1 - 0 = n by omega]; omega
theorem sumN_neg (f : Nat → Int) : ∀ n, sumN (fun i => -f i) n = -sumN f n
  | 0 => rfl
  | n + 1 => by unfold sumN; rw [sumN_neg f n]; omega
theorem sumN_bd {f : Nat → Int} {M : Int} (h : ∀ i, -M ≤ f i ∧ f i ≤ M) : ∀ n : Nat, -(M * n) ≤ sumN f n ∧ sumN f n ≤ M * n
  | 0 => by simp [sumN]
  | n + 1 => by
    have ih := sumN_bd h n
    have := h n
    unfold sumN
    rw [Int.natCast_succ, Int.mul_add, Int.mul_one]; omega
/-- twice the area, one edge after another -/
def trE (ps : List (Int × Int)) (i : Nat) : Int := trp ps i ((i + 1) % ps.length)
def areaN (ps : List (Int × Int)) : Int := sumN (trE ps) ps.length
theorem dblE_sum (ps : List (Int × Int)) : ∀ (m i : Nat), i + m = ps.length → sumN (trE ps) i + dblE ps i = areaN ps
  | 0, i, h => by rw [dblE, if_neg (by omega), show i = ps.length by omega]; unfold areaN; omega
  | m + 1, i, h => by
    have ih := dblE_sum ps m (i + 1) (by omega)
    rw [dblE, if_pos (by omega)]
    rw [sumN] at ih
    unfold trE at *; omega
theorem dblE_area (ps : List (Int × Int)) : dblE ps 0 = areaN ps := by have := dblE_sum ps ps.length 0 (by omega); simp only [sumN, Int.zero_add] at this; exact this
theorem twF_area {ps : List (Int × Int)} (hf : Few 40 ps) (hl : ps.length ≤ 8) : twF ps 1 0 = areaN ps ∧ (-51200 ≤ areaN ps ∧ areaN ps ≤ 51200) := by
  have hb : -51200 ≤ areaN ps ∧ areaN ps ≤ 51200 := by
    have := sumN_bd (f := trE ps) (M := 6400) (fun i => by
      have a := hf i
      have b := hf ((i + 1) % ps.length)
      unfold trE trp cA cB
      rw [lim_id (by omega) (by omega), lim_id (by omega) (by omega), lim_id (by omega) (by omega), lim_id (by omega) (by omega)]
      exact mul_bd (A := 80) (B := 80) (by omega) (by omega) (by omega) (by omega)) ps.length
    unfold areaN
    have hc : ((ps.length : Nat) : Int) ≤ 8 := by omega
    omega
  refine ⟨?_, hb⟩
  have z : IntKind.wrap .i64 0 = 0 := by rw [IntKind.wrap_i64]; omega
  rw [← dblF_twF]
  have a := dblF_E ps ps.length 0 0 (by omega)
  rw [z, Int.zero_add, dblE_area] at a
  rw [a, IntKind.wrap_i64]; omega
theorem cA_rot {ps : List (Int × Int)} {a i : Nat} (h : a < ps.length) (hi : i < ps.length) : cA (rotL ps a) i = cA ps ((a + i) % ps.length) ∧ cB (rotL ps a) i = cB ps ((a + i) % ps.length) := by
  unfold cA cB; rw [rotL_at h hi]; exact ⟨rfl, rfl⟩
theorem cA_rev {ps : List (Int × Int)} {i : Nat} (hi : i < ps.length) : cA ps.reverse i = cA ps (ps.length - 1 - i) ∧ cB ps.reverse i = cB ps (ps.length - 1 - i) := by
  unfold cA cB; rw [rev_at hi]; exact ⟨rfl, rfl⟩
theorem area_rot {ps : List (Int × Int)} {a : Nat} (h : a < ps.length) : areaN (rotL ps a) = areaN ps := by
  unfold areaN
  rw [rotL_len (by omega), ← sumN_rot (trE ps) h]
  refine sumN_congr fun i hi => ?_
  unfold trE trp
  rw [rotL_len (by omega)]
  have hm := Nat.mod_lt (i + 1) (show 0 < ps.length by omega)
  rw [(cA_rot h hi).1, (cA_rot h hi).2, (cA_rot h hm).1, (cA_rot h hm).2]
  rw [show ((a + i) % ps.length + 1) % ps.length = (a + (i + 1) % ps.length) % ps.length by rw [Nat.mod_add_mod, Nat.add_mod_mod, Nat.add_assoc]]
theorem area_rev {ps : List (Int × Int)} (h : 1 ≤ ps.length) : areaN ps.reverse = -areaN ps := by
  unfold areaN
  rw [List.length_reverse, ← sumN_neg]
  by_cases h1 : ps.length = 1
  · refine sumN_congr fun i hi => ?_
    unfold trE trp
    rw [List.length_reverse, h1, Nat.mod_one, (cA_rev (by omega)).1, (cA_rev (by omega)).2, (cA_rev (by omega)).1, (cA_rev (by omega)).2, h1, show i = 0 by omega]
    simp
  · rw [← sumN_rev ps.length (fun i => -trE ps i), ← sumN_rot (fun i => -trE ps (ps.length - 1 - i)) (show 1 < ps.length by omega)]
    refine sumN_congr fun i hi => ?_
    unfold trE trp
    rw [List.length_reverse]
    have hm := Nat.mod_lt (i + 1) (show 0 < ps.length by omega)
    rw [(cA_rev hi).1, (cA_rev hi).2, (cA_rev hm).1, (cA_rev hm).2]
    have e : (ps.length - 1 - (1 + i) % ps.length + 1) % ps.length = ps.length - 1 - i := by
      rcases Nat.eq_or_lt_of_le (show i + 1 ≤ ps.length by omega) with q | q
      · rw [show 1 + i = ps.length by omega, Nat.mod_self, show ps.length - 1 - 0 + 1 = ps.length by omega, Nat.mod_self]; omega
      · rw [Nat.mod_eq_of_lt (show 1 + i < ps.length by omega), Nat.mod_eq_of_lt (by omega)]; omega
    rw [e, Nat.add_comm 1 i]
    grind
/-! ### rings stay rings -/
def okE (ps : List (Int × Int)) (i k : Nat) : Prop := (eqP ps i ((i + 1) % ps.length) = false ∧ eqP ps k ((k + 1) % ps.length) = false) ∧ mnE ps i ((i + 1) % ps.length) k ((k + 1) % ps.length) = if (i + 1) % ps.length = k ∨ (k + 1) % ps.length = i then 1 else 0
theorem mn_swap (ps : List (Int × Int)) (a b c d : Nat) : mnE ps c d a b = mnE ps a b c d := meetN_swap _ _ _ _ _ _ _ _
theorem mn_flip (ps : List (Int × Int)) (a b c d : Nat) : mnE ps b a c d = mnE ps a b c d := meetN_flip _ _ _ _ _ _ _ _
theorem okE_symm {ps : List (Int × Int)} {i k : Nat} (h : okE ps i k) : okE ps k i := by
  refine ⟨⟨h.1.2, h.1.1⟩, ?_⟩
  rw [mn_swap, h.2]
  by_cases c : (i + 1) % ps.length = k ∨ (k + 1) % ps.length = i
  · rw [if_pos c, if_pos c.symm]
  · rw [if_neg c, if_neg fun q => c q.symm]
theorem apE_iff {ps : List (Int × Int)} (hn : 3 ≤ ps.length) {k i : Nat} (hk : k < i) (hi : i < ps.length) : apE ps k i = true ↔ okE ps k i := by
  have hi2 : (i + 1) % ps.length = if i + 1 = ps.length then 0 else i + 1 := by
    split
    · rename_i h; rw [h, Nat.mod_self]
    · exact Nat.mod_eq_of_lt (by omega)
  have hk2 : (k + 1) % ps.length = k + 1 := Nat.mod_eq_of_lt (by omega)
  unfold okE apE apF
  generalize mnE ps k ((k + 1) % ps.length) i ((i + 1) % ps.length) = M
  generalize eqP ps k ((k + 1) % ps.length) = E1
  generalize eqP ps i ((i + 1) % ps.length) = E2
  rw [hi2, hk2]
  cases E1 <;> cases E2 <;> simp
  by_cases h1 : k + 1 = i
  · rw [if_pos (by omega), if_pos (.inl h1)]
  · rw [if_neg (by omega)]
    by_cases h2 : k = 0 ∧ i + 1 = ps.length
    · rw [if_pos (by rw [if_pos h2.2, h2.1]), if_pos (.inr (by rw [if_pos h2.2, h2.1]))]
    · rw [if_neg (by split <;> omega), if_neg (by split <;> omega)]
theorem allap_iff {ps : List (Int × Int)} (hn : 3 ≤ ps.length) : allap ps ps.length = true ↔ ∀ i k, i < ps.length → k < ps.length → i ≠ k → okE ps i k := by
  constructor
  · intro h i k hi hk hne
    rcases Nat.lt_or_gt_of_ne hne with q | q
    · exact (apE_iff hn q hk).1 (all_at (f := fun z => apE ps z k) (all_at (f := fun z => apRow ps z z) h hk) q)
    · exact okE_symm ((apE_iff hn q hi).1 (all_at (f := fun z => apE ps z i) (all_at (f := fun z => apRow ps z z) h hi) q))
  · intro h
    unfold allap apRow
    simp only [List.all_eq_true, List.mem_range]
    exact fun i hi k hk => (apE_iff hn hk hi).2 (h k i (by omega) hi (by omega))
theorem eqP_comm (ps : List (Int × Int)) (a b : Nat) : eqP ps a b = eqP ps b a := by
  unfold eqP
  rw [Bool.eq_iff_iff]; simp only [Bool.and_eq_true, beq_iff_eq]; constructor <;> (rintro ⟨h1, h2, h3⟩; exact ⟨h1.symm, h2.symm, h3⟩)
theorem eqP_of {ps qs : List (Int × Int)} {a b c d : Nat} (h1 : qs.getD a (0, 0) = ps.getD c (0, 0)) (h2 : qs.getD b (0, 0) = ps.getD d (0, 0)) : eqP qs a b = eqP ps c d := by unfold eqP gx gy; rw [h1, h2]
theorem mnE_of {ps qs : List (Int × Int)} {a b c d a' b' c' d' : Nat} (h1 : qs.getD a (0, 0) = ps.getD a' (0, 0)) (h2 : qs.getD b (0, 0) = ps.getD b' (0, 0)) (h3 : qs.getD c (0, 0) = ps.getD c' (0, 0)) (h4 : qs.getD d (0, 0) = ps.getD d' (0, 0)) : mnE qs a b c d = mnE ps a' b' c' d' := by
  unfold mnE cA cB; rw [h1, h2, h3, h4]
theorem rev_step {n i : Nat} (hi : i < n) (hn : 2 ≤ n) : ∃ t, t < n ∧ n - 1 - i = (t + 1) % n ∧ n - 1 - (i + 1) % n = t := by
  rcases Nat.eq_or_lt_of_le (show i + 1 ≤ n by omega) with q | q
  · exact ⟨n - 1, by omega, by rw [show n - 1 + 1 = n by omega, Nat.mod_self]; omega, by rw [q, Nat.mod_self]; omega⟩
  · exact ⟨n - 2 - i, by omega, by rw [Nat.mod_eq_of_lt (by omega)]; omega, by rw [Nat.mod_eq_of_lt q]; omega⟩
theorem allap_rev {ps : List (Int × Int)} (hn : 3 ≤ ps.length) (h : allap ps ps.length = true) : allap ps.reverse ps.reverse.length = true := by
  rw [allap_iff (by simpa using hn)]
  rw [allap_iff hn] at h
  rw [List.length_reverse]
  intro i k hi hk hne
  obtain ⟨t, ht, t1, t2⟩ := rev_step hi (by omega)
  obtain ⟨s, hs, s1, s2⟩ := rev_step hk (by omega)
  have hts : t ≠ s := fun e => by subst e; rw [← t1] at s1; omega
  have o := h t s ht hs hts
  have mi := Nat.mod_lt (i + 1) (show 0 < ps.length by omega)
  have mk := Nat.mod_lt (k + 1) (show 0 < ps.length by omega)
  have gi : ps.reverse.getD i (0, 0) = ps.getD ((t + 1) % ps.length) (0, 0) := by rw [rev_at hi, t1]
  have gi2 : ps.reverse.getD ((i + 1) % ps.length) (0, 0) = ps.getD t (0, 0) := by rw [rev_at mi, t2]
  have gk : ps.reverse.getD k (0, 0) = ps.getD ((s + 1) % ps.length) (0, 0) := by rw [rev_at hk, s1]
  have gk2 : ps.reverse.getD ((k + 1) % ps.length) (0, 0) = ps.getD s (0, 0) := by rw [rev_at mk, s2]
  unfold okE
  rw [List.length_reverse]
  refine ⟨⟨?_, ?_⟩, ?_⟩
  · rw [eqP_of gi gi2, eqP_comm]; exact o.1.1
  · rw [eqP_of gk gk2, eqP_comm]; exact o.1.2
  · rw [mnE_of gi gi2 gk gk2, mn_flip, mn_swap, mn_flip, mn_swap, o.2]
    have e1 : (t + 1) % ps.length = s ↔ (k + 1) % ps.length = i := by omega
    have e2 : (s + 1) % ps.length = t ↔ (i + 1) % ps.length = k := by omega
    by_cases c : (t + 1) % ps.length = s ∨ (s + 1) % ps.length = t
    · rw [if_pos c, if_pos (by omega)]
    · rw [if_neg c, if_neg (by omega)]
theorem allap_rot {ps : List (Int × Int)} {a : Nat} (ha : a < ps.length) (hn : 3 ≤ ps.length) (h : allap ps ps.length = true) : allap (rotL ps a) (rotL ps a).length = true := by
  have hl := rotL_len (ps := ps) (a := a) (by omega)
  rw [allap_iff (by omega)]
  rw [allap_iff hn] at h
  rw [hl]
  intro i k hi hk hne
  have mi := Nat.mod_lt (i + 1) (show 0 < ps.length by omega)
  have mk := Nat.mod_lt (k + 1) (show 0 < ps.length by omega)
  have step : ∀ j, (a + (j + 1) % ps.length) % ps.length = ((a + j) % ps.length + 1) % ps.length := fun j => by rw [Nat.mod_add_mod, Nat.add_mod_mod, Nat.add_assoc]
  have inj : ∀ j q, j < ps.length → q < ps.length → (a + j) % ps.length = (a + q) % ps.length → j = q := by
    intro j q hj hq e
    by_cases c1 : a + j < ps.length <;> by_cases c2 : a + q < ps.length
    · rw [Nat.mod_eq_of_lt c1, Nat.mod_eq_of_lt c2] at e; omega
    · rw [Nat.mod_eq_of_lt c1, Nat.mod_eq_sub_mod (by omega), Nat.mod_eq_of_lt (by omega)] at e; omega
    · rw [Nat.mod_eq_of_lt c2, Nat.mod_eq_sub_mod (by omega), Nat.mod_eq_of_lt (by omega)] at e; omega
    · rw [Nat.mod_eq_sub_mod (by omega), Nat.mod_eq_of_lt (by omega), Nat.mod_eq_sub_mod (a := a + q) (by omega), Nat.mod_eq_of_lt (by omega)] at e; omega
  have o := h ((a + i) % ps.length) ((a + k) % ps.length) (Nat.mod_lt _ (by omega)) (Nat.mod_lt _ (by omega)) (fun e => hne (inj i k hi hk e))
  have gi := rotL_at ha hi
  have gk := rotL_at ha hk
  have gi2 : (rotL ps a).getD ((i + 1) % ps.length) (0, 0) = ps.getD (((a + i) % ps.length + 1) % ps.length) (0, 0) := by rw [rotL_at ha mi, step]
  have gk2 : (rotL ps a).getD ((k + 1) % ps.length) (0, 0) = ps.getD (((a + k) % ps.length + 1) % ps.length) (0, 0) := by rw [rotL_at ha mk, step]
  unfold okE
  rw [hl]
  refine ⟨⟨?_, ?_⟩, ?_⟩
  · rw [eqP_of gi gi2]; exact o.1.1
  · rw [eqP_of gk gk2]; exact o.1.2
  · rw [mnE_of gi gi2 gk gk2, o.2]
    have e1 : ((a + i) % ps.length + 1) % ps.length = (a + k) % ps.length ↔ (i + 1) % ps.length = k := by rw [← step]; exact ⟨inj _ _ mi hk, fun e => by rw [e]⟩
    have e2 : ((a + k) % ps.length + 1) % ps.length = (a + i) % ps.length ↔ (k + 1) % ps.length = i := by rw [← step]; exact ⟨inj _ _ mk hi, fun e => by rw [e]⟩
    by_cases c : (i + 1) % ps.length = k ∨ (k + 1) % ps.length = i
    · rw [if_pos c, if_pos (by rw [e1, e2]; exact c)]
    · rw [if_neg c, if_neg (by rw [e1, e2]; exact c)]
end Go.Proofs.YtngmegnaohmapaaDoor.Am.Sp

