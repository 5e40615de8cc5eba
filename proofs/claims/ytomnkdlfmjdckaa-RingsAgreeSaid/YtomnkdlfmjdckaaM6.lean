import Derived.Test.YtomnkdlfmjdckaaM3
import Derived.Test.YtomnkdlfmjdckaaProg
import Derived.Test.YtomnkdlfmjdckaaM2
import Derived.Test.YtomnkdlfmjdckaaM5
set_option linter.unusedVariables false
set_option linter.unusedSimpArgs false
namespace Go.Proofs.Ytomnkdlfmjdckaa.Am.Sp
open Go
def sumN (f : Nat → Int) : Nat → Int
  | 0 => 0
  | n + 1 => sumN f n + f n
theorem sumN_congr {f g : Nat → Int} : ∀ {n : Nat}, (∀ i, i < n → f i = g i) → sumN f n = sumN g n
  | 0, _ => rfl
  | n + 1, h => by unfold sumN; rw [sumN_congr (n := n) fun i hi => h i (by omega), h n (by omega)]
theorem sumN_add (f : Nat → Int) (a : Nat) : ∀ b, sumN f (a + b) = sumN f a + sumN (fun i => f (a + i)) b
  | 0 => by simp [sumN]
  | b + 1 => by rw [← Nat.add_assoc, sumN, sumN_add f a b]; simp only [sumN]; omega
theorem sumN_rot (f : Nat → Int) {a n : Nat} (h : a < n) : sumN (fun i => f ((a + i) % n)) n = sumN f n := by
  obtain ⟨b, rfl⟩ : ∃ b, n = b + a := ⟨n - a, by omega⟩
  rw [sumN_add _ b a]
  have e1 : sumN (fun i => f ((a + i) % (b + a))) b = sumN (fun i => f (a + i)) b := sumN_congr fun i hi => by rw [Nat.mod_eq_of_lt (by omega)]
  have e2 : sumN (fun i => f ((a + (b + i)) % (b + a))) a = sumN f a := sumN_congr fun i hi => by rw [show a + (b + i) = i + (b + a) by omega, Nat.add_mod_right, Nat.mod_eq_of_lt (by omega)]
  rw [e1, e2, Nat.add_comm b a, sumN_add f a b]; omega
theorem sumN_front (f : Nat → Int) (n : Nat) : sumN f (n + 1) = f 0 + sumN (fun i => f (i + 1)) n := by
  rw [Nat.add_comm, sumN_add f 1 n]
  simp only [sumN, Int.zero_add]
  congr 1
  exact sumN_congr fun i _ => by rw [Nat.add_comm]
theorem sumN_rev : ∀ (n : Nat) (f : Nat → Int), sumN (fun i => f (n - 1 - i)) n = sumN f n
  | 0, _ => rfl
  | n + 1, f => by
    rw [sumN_front]
    have e : sumN (fun i => f (n + 1 - 1 - (i + 1))) n = sumN (fun i => f (n - 1 - i)) n := sumN_congr fun i hi => by congr 1; omega
    rw [e, sumN_rev n f, sumN, show n + 1 - 1 - 0 = n by omega]; omega
theorem sumN_neg (f : Nat → Int) : ∀ n, sumN (fun i => -f i) n = -sumN f n
  | 0 => rfl
  | n + 1 => by unfold sumN; rw [sumN_neg f n]; omega
theorem sumN_bd {f : Nat → Int} {M : Int} (h : ∀ i, -M ≤ f i ∧ f i ≤ M) : ∀ n : Nat, -(M * n) ≤ sumN f n ∧ sumN f n ≤ M * n
  | 0 => by simp [sumN]
  | n + 1 => by
    have ih := sumN_bd h n
    have := h n
    unfold sumN
    rw [Int.natCast_succ, Int.mul_add, Int.mul_one]; omega
/-- twice the area, one edge after another -/
def trE (ps : List (Int × Int)) (i : Nat) : Int := trp ps i ((i + 1) % ps.length)
def areaN (ps : List (Int × Int)) : Int := sumN (trE ps) ps.length
theorem dblE_sum (ps : List (Int × Int)) : ∀ (m i : Nat), i + m = ps.length → sumN (trE ps) i + dblE ps i = areaN ps
  | 0, i, h => by rw [dblE, if_neg (by omega), show i = ps.length by omega]; unfold areaN; omega
  | m + 1, i, h => by
    have ih := dblE_sum ps m (i + 1) (by omega)
    rw [dblE, if_pos (by omega)]
    rw [sumN] at ih
    unfold trE at *; omega
theorem dblE_area (ps : List (Int × Int)) : dblE ps 0 = areaN ps := by have := dblE_sum ps ps.length 0 (by omega); simp only [sumN, Int.zero_add] at this; exact this
theorem twF_area {ps : List (Int × Int)} (hf : Few 40 ps) (hl : ps.length ≤ 8) : twF ps 1 0 = areaN ps ∧ (-51200 ≤ areaN ps ∧ areaN ps ≤ 51200) := by
  have hb : -51200 ≤ areaN ps ∧ areaN ps ≤ 51200 := by
    have := sumN_bd (f := trE ps) (M := 6400) (fun i => by
      have a := hf i
      have b := hf ((i + 1) % ps.length)
      unfold trE trp cA cB
      rw [lim_id (by omega) (by omega), lim_id (by omega) (by omega), lim_id (by omega) (by omega), lim_id (by omega) (by omega)]
      exact mul_bd (A := 80) (B := 80) (by omega) (by omega) (by omega) (by omega)) ps.length
    unfold areaN
    have hc : ((ps.length : Nat) : Int) ≤ 8 := by omega
    omega
  refine ⟨?_, hb⟩
  have z : IntKind.wrap .i64 0 = 0 := by rw [IntKind.wrap_i64]; omega
  rw [← dblF_twF]
  have a := dblF_E ps ps.length 0 0 (by omega)
  rw [z, Int.zero_add, dblE_area] at a
  rw [a, IntKind.wrap_i64]; omega
theorem cA_rot {ps : List (Int × Int)} {a i : Nat} (h : a < ps.length) (hi : i < ps.length) : cA (rotL ps a) i = cA ps ((a + i) % ps.length) ∧ cB (rotL ps a) i = cB ps ((a + i) % ps.length) := by
  unfold cA cB; rw [rotL_at h hi]; exact ⟨rfl, rfl⟩
theorem cA_rev {ps : List (Int × Int)} {i : Nat} (hi : i < ps.length) : cA ps.reverse i = cA ps (ps.length - 1 - i) ∧ cB ps.reverse i = cB ps (ps.length - 1 - i) := by
  unfold cA cB; rw [rev_at hi]; exact ⟨rfl, rfl⟩
theorem area_rot {ps : List (Int × Int)} {a : Nat} (h : a < ps.length) : areaN (rotL ps a) = areaN ps := by
  unfold areaN
  rw [rotL_len (by omega), ← sumN_rot (trE ps) h]
  refine sumN_congr fun i hi => ?_
  unfold trE trp
  rw [rotL_len (by omega)]
  have hm := Nat.mod_lt (i + 1) (show 0 < ps.length by omega)
  rw [(cA_rot h hi).1, (cA_rot h hi).2, (cA_rot h hm).1, (cA_rot h hm).2]
  rw [show ((a + i) % ps.length + 1) % ps.length = (a + (i + 1) % ps.length) % ps.length by rw [Nat.mod_add_mod, Nat.add_mod_mod, Nat.add_assoc]]
theorem area_rev {ps : List (Int × Int)} (h : 1 ≤ ps.length) : areaN ps.reverse = -areaN ps := by
  unfold areaN
  rw [List.length_reverse, ← sumN_neg]
  by_cases h1 : ps.length = 1
  · refine sumN_congr fun i hi => ?_
    unfold trE trp
    rw [List.length_reverse, h1, Nat.mod_one, (cA_rev (by omega)).1, (cA_rev (by omega)).2, (cA_rev (by omega)).1, (cA_rev (by omega)).2, h1, show i = 0 by omega]
    simp
  · rw [← sumN_rev ps.length (fun i => -trE ps i), ← sumN_rot (fun i => -trE ps (ps.length - 1 - i)) (show 1 < ps.length by omega)]
    refine sumN_congr fun i hi => ?_
    unfold trE trp
    rw [List.length_reverse]
    have hm := Nat.mod_lt (i + 1) (show 0 < ps.length by omega)
    rw [(cA_rev hi).1, (cA_rev hi).2, (cA_rev hm).1, (cA_rev hm).2]
    have e : (ps.length - 1 - (1 + i) % ps.length + 1) % ps.length = ps.length - 1 - i := by
      rcases Nat.eq_or_lt_of_le (show i + 1 ≤ ps.length by omega) with q | q
      · rw [show 1 + i = ps.length by omega, Nat.mod_self, show ps.length - 1 - 0 + 1 = ps.length by omega, Nat.mod_self]; omega
      · rw [Nat.mod_eq_of_lt (show 1 + i < ps.length by omega), Nat.mod_eq_of_lt (by omega)]; omega
    rw [e, Nat.add_comm 1 i]
    grind
def okE (ps : List (Int × Int)) (i k : Nat) : Prop := (eqP ps i ((i + 1) % ps.length) = false ∧ eqP ps k ((k + 1) % ps.length) = false) ∧ mnE ps i ((i + 1) % ps.length) k ((k + 1) % ps.length) = if (i + 1) % ps.length = k ∨ (k + 1) % ps.length = i then 1 else 0
theorem mn_swap (ps : List (Int × Int)) (a b c d : Nat) : mnE ps c d a b = mnE ps a b c d := meetN_swap _ _ _ _ _ _ _ _
theorem mn_flip (ps : List (Int × Int)) (a b c d : Nat) : mnE ps b a c d = mnE ps a b c d := meetN_flip _ _ _ _ _ _ _ _
theorem okE_symm {ps : List (Int × Int)} {i k : Nat} (h : okE ps i k) : okE ps k i := by
  refine ⟨⟨h.1.2, h.1.1⟩, ?_⟩
  rw [mn_swap, h.2]
  by_cases c : (i + 1) % ps.length = k ∨ (k + 1) % ps.length = i
  · rw [if_pos c, if_pos c.symm]
  · rw [if_neg c, if_neg fun q => c q.symm]
theorem apE_iff {ps : List (Int × Int)} (hn : 3 ≤ ps.length) {k i : Nat} (hk : k < i) (hi : i < ps.length) : apE ps k i = true ↔ okE ps k i := by
  have hi2 : (i + 1) % ps.length = if i + 1 = ps.length then 0 else i + 1 := by
    split
    · rename_i h; rw [h, Nat.mod_self]
    · exact Nat.mod_eq_of_lt (by omega)
  have hk2 : (k + 1) % ps.length = k + 1 := Nat.mod_eq_of_lt (by omega)
  unfold okE apE apF
  generalize mnE ps k ((k + 1) % ps.length) i ((i + 1) % ps.length) = M
  generalize eqP ps k ((k + 1) % ps.length) = E1
  generalize eqP ps i ((i + 1) % ps.length) = E2
  rw [hi2, hk2]
  cases E1 <;> cases E2 <;> simp
  by_cases h1 : k + 1 = i
  · rw [if_pos (by omega), if_pos (.inl h1)]
  · rw [if_neg (by omega)]
    by_cases h2 : k = 0 ∧ i + 1 = ps.length
    · rw [if_pos (by rw [if_pos h2.2, h2.1]), if_pos (.inr (by rw [if_pos h2.2, h2.1]))]
    · rw [if_neg (by split <;> omega), if_neg (by split <;> omega)]
theorem allap_iff {ps : List (Int × Int)} (hn : 3 ≤ ps.length) : allap ps ps.length = true ↔ ∀ i k, i < ps.length → k < ps.length → i ≠ k → okE ps i k := by
  constructor
  · intro h i k hi hk hne
    rcases Nat.lt_or_gt_of_ne hne with q | q
    · exact (apE_iff hn q hk).1 (all_at (f := fun z => apE ps z k) (all_at (f := fun z => apRow ps z z) h hk) q)
    · exact okE_symm ((apE_iff hn q hi).1 (all_at (f := fun z => apE ps z i) (all_at (f := fun z => apRow ps z z) h hi) q))
  · intro h
    unfold allap apRow
    simp only [List.all_eq_true, List.mem_range]
    exact fun i hi k hk => (apE_iff hn hk hi).2 (h k i (by omega) hi (by omega))
theorem eqP_comm (ps : List (Int × Int)) (a b : Nat) : eqP ps a b = eqP ps b a := by
  unfold eqP
  rw [Bool.eq_iff_iff]; simp only [Bool.and_eq_true, beq_iff_eq]; constructor <;> (rintro ⟨h1, h2, h3⟩; exact ⟨h1.symm, h2.symm, h3⟩)
theorem eqP_of {ps qs : List (Int × Int)} {a b c d : Nat} (h1 : qs.getD a (0, 0) = ps.getD c (0, 0)) (h2 : qs.getD b (0, 0) = ps.getD d (0, 0)) : eqP qs a b = eqP ps c d := by unfold eqP gx gy; rw [h1, h2]
theorem mnE_of {ps qs : List (Int × Int)} {a b c d a' b' c' d' : Nat} (h1 : qs.getD a (0, 0) = ps.getD a' (0, 0)) (h2 : qs.getD b (0, 0) = ps.getD b' (0, 0)) (h3 : qs.getD c (0, 0) = ps.getD c' (0, 0)) (h4 : qs.getD d (0, 0) = ps.getD d' (0, 0)) : mnE qs a b c d = mnE ps a' b' c' d' := by
  unfold mnE cA cB; rw [h1, h2, h3, h4]
theorem rev_step {n i : Nat} (hi : i < n) (hn : 2 ≤ n) : ∃ t, t < n ∧ n - 1 - i = (t + 1) % n ∧ n - 1 - (i + 1) % n = t := by
  rcases Nat.eq_or_lt_of_le (show i + 1 ≤ n by omega) with q | q
  · exact ⟨n - 1, by omega, by rw [show n - 1 + 1 = n by omega, Nat.mod_self]; omega, by rw [q, Nat.mod_self]; omega⟩
  · exact ⟨n - 2 - i, by omega, by rw [Nat.mod_eq_of_lt (by omega)]; omega, by rw [Nat.mod_eq_of_lt q]; omega⟩
theorem allap_rev {ps : List (Int × Int)} (hn : 3 ≤ ps.length) (h : allap ps ps.length = true) : allap ps.reverse ps.reverse.length = true := by
  rw [allap_iff (by simpa using hn)]
  rw [allap_iff hn] at h
  rw [List.length_reverse]
  intro i k hi hk hne
  obtain ⟨t, ht, t1, t2⟩ := rev_step hi (by omega)
  obtain ⟨s, hs, s1, s2⟩ := rev_step hk (by omega)
  have hts : t ≠ s := fun e => by subst e; rw [← t1] at s1; omega
  have o := h t s ht hs hts
  have mi := Nat.mod_lt (i + 1) (show 0 < ps.length by omega)
  have mk := Nat.mod_lt (k + 1) (show 0 < ps.length by omega)
  have gi : ps.reverse.getD i (0, 0) = ps.getD ((t + 1) % ps.length) (0, 0) := by rw [rev_at hi, t1]
  have gi2 : ps.reverse.getD ((i + 1) % ps.length) (0, 0) = ps.getD t (0, 0) := by rw [rev_at mi, t2]
  have gk : ps.reverse.getD k (0, 0) = ps.getD ((s + 1) % ps.length) (0, 0) := by rw [rev_at hk, s1]
  have gk2 : ps.reverse.getD ((k + 1) % ps.length) (0, 0) = ps.getD s (0, 0) := by rw [rev_at mk, s2]
  unfold okE
  rw [List.length_reverse]
  refine ⟨⟨?_, ?_⟩, ?_⟩
  · rw [eqP_of gi gi2, eqP_comm]; exact o.1.1
  · rw [eqP_of gk gk2, eqP_comm]; exact o.1.2
  · rw [mnE_of gi gi2 gk gk2, mn_flip, mn_swap, mn_flip, mn_swap, o.2]
    have e1 : (t + 1) % ps.length = s ↔ (k + 1) % ps.length = i := by omega
    have e2 : (s + 1) % ps.length = t ↔ (i + 1) % ps.length = k := by omega
    by_cases c : (t + 1) % ps.length = s ∨ (s + 1) % ps.length = t
    · rw [if_pos c, if_pos (by omega)]
    · rw [if_neg c, if_neg (by omega)]
theorem allap_rot {ps : List (Int × Int)} {a : Nat} (ha : a < ps.length) (hn : 3 ≤ ps.length) (h : allap ps ps.length = true) : allap (rotL ps a) (rotL ps a).length = true := by
  have hl := rotL_len (ps := ps) (a := a) (by omega)
  rw [allap_iff (by omega)]
  rw [allap_iff hn] at h
  rw [hl]
  intro i k hi hk hne
  have mi := Nat.mod_lt (i + 1) (show 0 < ps.length by omega)
  have mk := Nat.mod_lt (k + 1) (show 0 < ps.length by omega)
  have step : ∀ j, (a + (j + 1) % ps.length) % ps.length = ((a + j) % ps.length + 1) % ps.length := fun j => by rw [Nat.mod_add_mod, Nat.add_mod_mod, Nat.add_assoc]
  have inj : ∀ j q, j < ps.length → q < ps.length → (a + j) % ps.length = (a + q) % ps.length → j = q := by
    intro j q hj hq e
    by_cases c1 : a + j < ps.length <;> by_cases c2 : a + q < ps.length
    · rw [Nat.mod_eq_of_lt c1, Nat.mod_eq_of_lt c2] at e; omega
    · rw [Nat.mod_eq_of_lt c1, Nat.mod_eq_sub_mod (by omega), Nat.mod_eq_of_lt (by omega)] at e; omega
    · rw [Nat.mod_eq_of_lt c2, Nat.mod_eq_sub_mod (by omega), Nat.mod_eq_of_lt (by omega)] at e; omega
    · rw [Nat.mod_eq_sub_mod (by omega), Nat.mod_eq_of_lt (by omega), Nat.mod_eq_sub_mod (a := a + q) (by omega), Nat.mod_eq_of_lt (by omega)] at e; omega
  have o := h ((a + i) % ps.length) ((a + k) % ps.length) (Nat.mod_lt _ (by omega)) (Nat.mod_lt _ (by omega)) (fun e => hne (inj i k hi hk e))
  have gi := rotL_at ha hi
  have gk := rotL_at ha hk
  have gi2 : (rotL ps a).getD ((i + 1) % ps.length) (0, 0) = ps.getD (((a + i) % ps.length + 1) % ps.length) (0, 0) := by rw [rotL_at ha mi, step]
  have gk2 : (rotL ps a).getD ((k + 1) % ps.length) (0, 0) = ps.getD (((a + k) % ps.length + 1) % ps.length) (0, 0) := by rw [rotL_at ha mk, step]
  unfold okE
  rw [hl]
  refine ⟨⟨?_, ?_⟩, ?_⟩
  · rw [eqP_of gi gi2]; exact o.1.1
  · rw [eqP_of gk gk2]; exact o.1.2
  · rw [mnE_of gi gi2 gk gk2, o.2]
    have e1 : ((a + i) % ps.length + 1) % ps.length = (a + k) % ps.length ↔ (i + 1) % ps.length = k := by rw [← step]; exact ⟨inj _ _ mi hk, fun e => by rw [e]⟩
    have e2 : ((a + k) % ps.length + 1) % ps.length = (a + i) % ps.length ↔ (k + 1) % ps.length = i := by rw [← step]; exact ⟨inj _ _ mk hi, fun e => by rw [e]⟩
    by_cases c : (i + 1) % ps.length = k ∨ (k + 1) % ps.length = i
    · rw [if_pos c, if_pos (by rw [e1, e2]; exact c)]
    · rw [if_neg c, if_neg (by rw [e1, e2]; exact c)]
end Go.Proofs.Ytomnkdlfmjdckaa.Am.Sp

set_option linter.unusedVariables false
set_option linter.unusedSimpArgs false
namespace Go.Proofs.Ytomnkdlfmjdckaa.Am.Sp
open Go
theorem has2_move (dx dy : Int) (l : List (Int × Int)) (px py : Int) : has2 (l.map (move2 (dx, dy))) (px + dx) (py + dy) = has2 l px py := by
  unfold has2
  rw [List.any_map]
  congr 1
  funext z
  simp only [Function.comp, move2]
  rw [Bool.eq_iff_iff]; simp only [Bool.and_true, Bool.and_eq_true, beq_iff_eq]
  omega
theorem addp_move (dx dy : Int) (l : List (Int × Int)) (px py qx qy rx ry : Int) : addp (l.map (move2 (dx, dy))) (px + dx) (py + dy) (qx + dx) (qy + dy) (rx + dx) (ry + dy) = (addp l px py qx qy rx ry).map (move2 (dx, dy)) := by
  have e : addb (l.map (move2 (dx, dy))) (px + dx) (py + dy) (qx + dx) (qy + dy) (rx + dx) (ry + dy) = addb l px py qx qy rx ry := by
    unfold addb; rw [has2_move]; congr 1; exact onb_move2 (dx, dy) (qx, qy) (rx, ry) (px, py)
  unfold addp; rw [e]
  split
  · rw [List.map_append]; rfl
  · rfl
theorem meetN_move (dx dy ax ay bx b_y cx cy ex ey : Int) : meetN (ax + dx) (ay + dy) (bx + dx) (b_y + dy) (cx + dx) (cy + dy) (ex + dx) (ey + dy) = meetN ax ay bx b_y cx cy ex ey := by
  have hs : shr (ax + dx) (ay + dy) (bx + dx) (b_y + dy) (cx + dx) (cy + dy) (ex + dx) (ey + dy) = (shr ax ay bx b_y cx cy ex ey).map (move2 (dx, dy)) := by
    unfold shr
    rw [← addp_move, ← addp_move, ← addp_move, ← addp_move]; rfl
  unfold meetN
  rw [hs, List.length_map]
  have hp : prp (ax + dx) (ay + dy) (bx + dx) (b_y + dy) (cx + dx) (cy + dy) (ex + dx) (ey + dy) = prp ax ay bx b_y cx cy ex ey := by
    unfold prp; rw [← crs_move, ← crs_move, ← crs_move, ← crs_move]
  rw [hp]
theorem cA_move {ps : List (Int × Int)} {dx dy : Int} {m : Int} (hm : m ≤ 1000) (hf : Few m ps) (hx : -1000 ≤ dx ∧ dx ≤ 1000) (hy : -1000 ≤ dy ∧ dy ≤ 1000) {i : Nat} (hi : i < ps.length) : cA (ps.map (move2 (dx, dy))) i = cA ps i + dx ∧ cB (ps.map (move2 (dx, dy))) i = cB ps i + dy := by
  unfold cA cB; rw [getD_map hi]
  have := hf i
  simp only [move2]
  rw [lim_id (by omega) (by omega), lim_id (by omega) (by omega), lim_id (by omega) (by omega), lim_id (by omega) (by omega)]; exact ⟨rfl, rfl⟩
theorem eqP_move {ps : List (Int × Int)} {d : Int × Int} {i j : Nat} (hi : i < ps.length) (hj : j < ps.length) : eqP (ps.map (move2 d)) i j = eqP ps i j := by
  unfold eqP gx gy
  rw [getD_map hi, getD_map hj, Bool.eq_iff_iff]
  simp only [move2, Bool.and_true, Bool.and_eq_true, beq_iff_eq]; omega
theorem allap_move {ps : List (Int × Int)} {dx dy : Int} {m : Int} (hm : m ≤ 1000) (hf : Few m ps) (hx : -1000 ≤ dx ∧ dx ≤ 1000) (hy : -1000 ≤ dy ∧ dy ≤ 1000) (hn : 3 ≤ ps.length) (h : allap ps ps.length = true) : allap (ps.map (move2 (dx, dy))) (ps.map (move2 (dx, dy))).length = true := by
  rw [allap_iff (by simpa using hn)]
  rw [allap_iff hn] at h
  rw [List.length_map]
  intro i k hi hk hne
  have o := h i k hi hk hne
  have mi := Nat.mod_lt (i + 1) (show 0 < ps.length by omega)
  have mk := Nat.mod_lt (k + 1) (show 0 < ps.length by omega)
  unfold okE at *
  rw [List.length_map]
  refine ⟨⟨by rw [eqP_move hi mi]; exact o.1.1, by rw [eqP_move hk mk]; exact o.1.2⟩, ?_⟩
  rw [← o.2]
  unfold mnE
  have c := fun {j : Nat} (hj : j < ps.length) => cA_move (dx := dx) (dy := dy) hm hf hx hy hj
  rw [(c hi).1, (c hi).2, (c mi).1, (c mi).2, (c hk).1, (c hk).2, (c mk).1, (c mk).2, meetN_move]
theorem twF_move {ps : List (Int × Int)} {dx dy : Int} {m : Int} (hm : m ≤ 1000) (hf : Few m ps) (hx : -1000 ≤ dx ∧ dx ≤ 1000) (hy : -1000 ≤ dy ∧ dy ≤ 1000) (h0 : 1 ≤ ps.length) : twF (ps.map (move2 (dx, dy))) 1 0 = twF ps 1 0 := by
  refine twF_congr (by simp) (fun k hk => ?_) (ps.length - 1) 1 0 (by simp; omega)
  rw [List.length_map] at hk
  have c := fun {j : Nat} (hj : j < ps.length) => cA_move (dx := dx) (dy := dy) hm hf hx hy hj
  rw [(c (show 0 < ps.length by omega)).1, (c (show 0 < ps.length by omega)).2, (c (show k < ps.length by omega)).1, (c (show k < ps.length by omega)).2, (c hk).1, (c hk).2, ← crs_move]
theorem few_nok {m : Int} {ps : List (Int × Int)} (hm : m ≤ 1048576) (h : Few m ps) : ps.any nok = false := by
  rw [List.any_eq_false]
  intro q hq
  have := few_mem h hq
  unfold nok
  rw [(okb_iff q.1 q.2).2 (by omega)]; simp
theorem chk_of {ps : List (Int × Int)} (h1 : 3 ≤ ps.length) (h2 : ps.length ≤ 200) (h3 : ps.any nok = false) (h4 : allap ps ps.length = true) : chkF ps = 0 :=
  chk_0 (decide_eq_false (by omega)) (decide_eq_false (by omega)) h3 rfl h4
theorem few_rot {m : Int} {ps : List (Int × Int)} {a : Nat} (hm : 0 ≤ m) (h : Few m ps) : Few m (rotL ps a) := few_of hm fun q hq => by
  unfold rotL at hq
  rcases List.mem_append.1 hq with k | k
  · exact few_mem h (List.mem_of_mem_drop k)
  · exact few_mem h (List.mem_of_mem_take k)
theorem few_rev {m : Int} {ps : List (Int × Int)} (hm : 0 ≤ m) (h : Few m ps) : Few m ps.reverse := few_of hm fun q hq => few_mem h (List.mem_reverse.1 hq)
theorem diff_rot {ps : List (Int × Int)} {a : Nat} (ha : a < ps.length) (h : Diff ps) : Diff (rotL ps a) := by
  intro i j hij hj e
  rw [rotL_len (by omega)] at hj
  rw [rotL_at ha (by omega), rotL_at ha hj] at e
  have := diff_eq h (Nat.mod_lt _ (by omega)) (Nat.mod_lt _ (by omega)) e
  by_cases c1 : a + i < ps.length <;> by_cases c2 : a + j < ps.length
  · rw [Nat.mod_eq_of_lt c1, Nat.mod_eq_of_lt c2] at this; omega
  · rw [Nat.mod_eq_of_lt c1, Nat.mod_eq_sub_mod (by omega), Nat.mod_eq_of_lt (by omega)] at this; omega
  · omega
  · rw [Nat.mod_eq_sub_mod (by omega), Nat.mod_eq_of_lt (by omega), Nat.mod_eq_sub_mod (a := a + j) (by omega), Nat.mod_eq_of_lt (by omega)] at this; omega
/-- the least corner stays the least one -/
abbrev Least (ps : List (Int × Int)) (m : Nat) : Prop := ∀ j, j < ps.length → befP (ps.getD j (0, 0)) (ps.getD m (0, 0)) = false
theorem rot_zero (ps : List (Int × Int)) : rotL ps 0 = ps := by unfold rotL; simp
end Go.Proofs.Ytomnkdlfmjdckaa.Am.Sp

set_option linter.unusedVariables false
set_option linter.unusedSimpArgs false
namespace Go.Proofs.Ytomnkdlfmjdckaa.Am.Sp
def good (ps : List (Int × Int)) : Bool := allap ps ps.length && decide (0 < areaN ps)
def gq (s : Int) (r : Nat) (na nb : Nat) : Bool := (List.range na).all fun a => (List.range nb).all fun b => good (rng 0 0 r s a b)
set_option maxRecDepth 100000
theorem tri4 : ((List.range 4).all fun q => gq 1 (q + 4) (2 * (q + 4)) (2 * (q + 4))) = true := by decide +kernel
theorem tri8 : ((List.range 3).all fun q => gq 1 (q + 8) (2 * (q + 8)) (2 * (q + 8))) = true := by decide +kernel
theorem tri11 : ((List.range 3).all fun q => gq 1 (q + 11) (2 * (q + 11)) (2 * (q + 11))) = true := by decide +kernel
theorem tri14 : ((List.range 2).all fun q => gq 1 (q + 14) (2 * (q + 14)) (2 * (q + 14))) = true := by decide +kernel
theorem tri16 : ((List.range 2).all fun q => gq 1 (q + 16) (2 * (q + 16)) (2 * (q + 16))) = true := by decide +kernel
theorem tri18 : ((List.range 2).all fun q => gq 1 (q + 18) (2 * (q + 18)) (2 * (q + 18))) = true := by decide +kernel
end Go.Proofs.Ytomnkdlfmjdckaa.Am.Sp

set_option linter.unusedVariables false
set_option linter.unusedSimpArgs false
namespace Go.Proofs.Ytomnkdlfmjdckaa.Am.Sp
def good2 (ps : List (Int × Int)) : Bool := allap ps ps.length && decide (0 < areaN ps)
def gq2 (s : Int) (r : Nat) (na nb : Nat) : Bool := (List.range na).all fun a => (List.range nb).all fun b => good2 (rng 0 0 r s a b)
set_option maxRecDepth 100000
theorem ell4 : ((List.range 6).all fun q => gq2 2 (q + 4) (q + 4) (q + 4)) = true := by decide +kernel
theorem ell10 : ((List.range 4).all fun q => gq2 2 (q + 10) (q + 10) (q + 10)) = true := by decide +kernel
theorem ell14 : ((List.range 3).all fun q => gq2 2 (q + 14) (q + 14) (q + 14)) = true := by decide +kernel
theorem ell17 : ((List.range 3).all fun q => gq2 2 (q + 17) (q + 17) (q + 17)) = true := by decide +kernel
theorem arr4 : ((List.range 16).all fun q => gq2 3 (q + 4) (q + 3) 1) = true := by decide +kernel
theorem oct4 : ((List.range 16).all fun q => gq2 4 (q + 4) (q + 3) 1) = true := by decide +kernel
theorem sqr4 : ((List.range 16).all fun q => gq2 0 (q + 4) 1 1) = true := by decide +kernel
end Go.Proofs.Ytomnkdlfmjdckaa.Am.Sp

set_option linter.unusedVariables false
set_option linter.unusedSimpArgs false
namespace Go.Proofs.Ytomnkdlfmjdckaa.Am.Sp
open Go
theorem gq_at {s : Int} {r na nb : Nat} (h : gq s r na nb = true) {a b : Nat} (ha : a < na) (hb : b < nb) : good (rng 0 0 r s a b) = true :=
  all_at (f := fun b => good (rng 0 0 r s a b)) (all_at (f := fun a => (List.range nb).all fun b => good (rng 0 0 r s a b)) h ha) hb
theorem tri_all {r : Nat} (h0 : 4 ≤ r) (h1 : r ≤ 19) : gq 1 r (2 * r) (2 * r) = true := by
  have f := fun {n k : Nat} (h : ((List.range n).all fun q => gq 1 (q + k) (2 * (q + k)) (2 * (q + k))) = true) (hk : k ≤ r) (hn : r < k + n) => (by
    have := all_at (f := fun q => gq 1 (q + k) (2 * (q + k)) (2 * (q + k))) h (show r - k < n by omega)
    rw [show r - k + k = r by omega] at this; exact this : gq 1 r (2 * r) (2 * r) = true)
  rcases (show (4 ≤ r ∧ r < 4 + 4) ∨ (8 ≤ r ∧ r < 8 + 3) ∨ (11 ≤ r ∧ r < 11 + 3) ∨ (14 ≤ r ∧ r < 14 + 2) ∨ (16 ≤ r ∧ r < 16 + 2) ∨ (18 ≤ r ∧ r < 18 + 2) by omega) with h | h | h | h | h | h
  · exact f tri4 h.1 h.2
  · exact f tri8 h.1 h.2
  · exact f tri11 h.1 h.2
  · exact f tri14 h.1 h.2
  · exact f tri16 h.1 h.2
  · exact f tri18 h.1 h.2
theorem ell_all {r : Nat} (h0 : 4 ≤ r) (h1 : r ≤ 19) : gq 2 r r r = true := by
  have f := fun {n k : Nat} (h : ((List.range n).all fun q => gq2 2 (q + k) (q + k) (q + k)) = true) (hk : k ≤ r) (hn : r < k + n) => (by
    have := all_at (f := fun q => gq2 2 (q + k) (q + k) (q + k)) h (show r - k < n by omega)
    rw [show r - k + k = r by omega] at this; exact this : gq 2 r r r = true)
  rcases (show (4 ≤ r ∧ r < 4 + 6) ∨ (10 ≤ r ∧ r < 10 + 4) ∨ (14 ≤ r ∧ r < 14 + 3) ∨ (17 ≤ r ∧ r < 17 + 3) by omega) with h | h | h | h
  · exact f ell4 h.1 h.2
  · exact f ell10 h.1 h.2
  · exact f ell14 h.1 h.2
  · exact f ell17 h.1 h.2
theorem rest_all {r : Nat} (h0 : 4 ≤ r) (h1 : r ≤ 19) : gq 3 r (r - 1) 1 = true ∧ gq 4 r (r - 1) 1 = true ∧ gq 0 r 1 1 = true := by
  have a := all_at (f := fun q => gq2 3 (q + 4) (q + 3) 1) arr4 (show r - 4 < 16 by omega)
  have b := all_at (f := fun q => gq2 4 (q + 4) (q + 3) 1) oct4 (show r - 4 < 16 by omega)
  have c := all_at (f := fun q => gq2 0 (q + 4) 1 1) sqr4 (show r - 4 < 16 by omega)
  rw [show r - 4 + 4 = r by omega] at a b c
  rw [show r - 4 + 3 = r - 1 by omega] at a b
  exact ⟨a, b, c⟩
theorem rng_shift (x y r s u v u' v' : Int) (h1 : s = 1 → u % (2 * r) = u' % (2 * r) ∧ v % (2 * r) = v' % (2 * r)) (h2 : s = 2 → u % r = u' % r ∧ v % r = v' % r) (h3 : s = 3 ∨ s = 4 → u % (r - 1) = u' % (r - 1)) : rng x y r s u v = (rng 0 0 r s u' v').map (move2 (x, y)) := by
  unfold rng
  by_cases c1 : s = 1
  · rw [if_pos c1, if_pos c1, (h1 c1).1, (h1 c1).2]
    simp only [List.map_cons, List.map_nil, move2, List.cons.injEq, Prod.mk.injEq, and_true]; omega
  · rw [if_neg c1, if_neg c1]
    by_cases c2 : s = 2
    · rw [if_pos c2, if_pos c2, (h2 c2).1, (h2 c2).2]
      simp only [List.map_cons, List.map_nil, move2, List.cons.injEq, Prod.mk.injEq, and_true]
      generalize u' % r = a
      generalize v' % r = b
      omega
    · rw [if_neg c2, if_neg c2]
      by_cases c3 : s = 3
      · rw [if_pos c3, if_pos c3, h3 (.inl c3)]
        simp only [List.map_cons, List.map_nil, move2, List.cons.injEq, Prod.mk.injEq, and_true]
        generalize u' % (r - 1) = a
        omega
      · rw [if_neg c3, if_neg c3]
        by_cases c4 : s = 4
        · rw [if_pos c4, if_pos c4, h3 (.inr c4)]
          simp only [List.map_cons, List.map_nil, move2, List.cons.injEq, Prod.mk.injEq, and_true]
          generalize u' % (r - 1) = a
          omega
        · rw [if_neg c4, if_neg c4]
          simp only [List.map_cons, List.map_nil, move2, List.cons.injEq, Prod.mk.injEq, and_true]; omega
/-- the number below n that is told by a raw number -/
theorem nat_mod (u : Int) {n : Nat} (h : 0 < n) : ∃ a : Nat, a < n ∧ u % (n : Int) = ((a : Nat) : Int) % (n : Int) := by
  have b := emod_bd u (n := (n : Int)) (by omega)
  refine ⟨(u % (n : Int)).toNat, by omega, ?_⟩
  rw [Int.toNat_of_nonneg b.1, Int.emod_emod]
theorem rng_good {x y : Int} {r : Nat} {s : Int} (hx : -20 ≤ x ∧ x ≤ 20) (hy : -20 ≤ y ∧ y ≤ 20) (h0 : 4 ≤ r) (h1 : r ≤ 19) (hs : 0 ≤ s ∧ s ≤ 4) (u v : Int) :
    ∃ u' v' : Int, good (rng 0 0 r s u' v') = true ∧ rng x y r s u v = (rng 0 0 r s u' v').map (move2 (x, y)) := by
  have t := rest_all h0 h1
  rcases (show s = 0 ∨ s = 1 ∨ s = 2 ∨ s = 3 ∨ s = 4 by omega) with rfl | rfl | rfl | rfl | rfl
  · exact ⟨((0 : Nat) : Int), ((0 : Nat) : Int), gq_at t.2.2 (by omega) (by omega), rng_shift _ _ _ _ _ _ _ _ (by omega) (by omega) (by omega)⟩
  · obtain ⟨a, ha, ea⟩ := nat_mod u (n := 2 * r) (by omega)
    obtain ⟨b, hb, eb⟩ := nat_mod v (n := 2 * r) (by omega)
    exact ⟨a, b, gq_at (tri_all h0 h1) ha hb, rng_shift _ _ _ _ _ _ _ _ (fun _ => ⟨by simpa using ea, by simpa using eb⟩) (by omega) (by omega)⟩
  · obtain ⟨a, ha, ea⟩ := nat_mod u (n := r) (by omega)
    obtain ⟨b, hb, eb⟩ := nat_mod v (n := r) (by omega)
    exact ⟨a, b, gq_at (ell_all h0 h1) ha hb, rng_shift _ _ _ _ _ _ _ _ (by omega) (fun _ => ⟨ea, eb⟩) (by omega)⟩
  · obtain ⟨a, ha, ea⟩ := nat_mod u (n := r - 1) (by omega)
    rw [show ((r - 1 : Nat) : Int) = (r : Int) - 1 by omega] at ea
    exact ⟨a, ((0 : Nat) : Int), gq_at t.1 ha (by omega), rng_shift _ _ _ _ _ _ _ _ (by omega) (by omega) (fun _ => ea)⟩
  · obtain ⟨a, ha, ea⟩ := nat_mod u (n := r - 1) (by omega)
    rw [show ((r - 1 : Nat) : Int) = (r : Int) - 1 by omega] at ea
    exact ⟨a, ((0 : Nat) : Int), gq_at t.2.1 ha (by omega), rng_shift _ _ _ _ _ _ _ _ (by omega) (by omega) (fun _ => ea)⟩
theorem rngL_good (xs : List Int) : allap (rngL xs) (rngL xs).length = true ∧ 0 < areaN (rngL xs) := by
  have a := emod_bd (xs.getD 0 0) (n := 40) (by decide)
  have b := emod_bd (xs.getD 1 0) (n := 40) (by decide)
  have c := emod_bd (xs.getD 2 0) (n := 16) (by decide)
  have d := emod_bd (xs.getD 3 0) (n := 5) (by decide)
  have hfm := rngL_few xs
  have hlm := rngL_len xs
  unfold rngL at *
  obtain ⟨r, hr⟩ : ∃ r : Nat, 4 + xs.getD 2 0 % 16 = (r : Int) := ⟨(4 + xs.getD 2 0 % 16).toNat, by omega⟩
  have hr4 : 4 ≤ r ∧ r ≤ 19 := by omega
  rw [hr] at hfm hlm ⊢
  obtain ⟨u', v', hg, e⟩ := rng_good (x := xs.getD 0 0 % 40 - 20) (y := xs.getD 1 0 % 40 - 20) (r := r) (s := xs.getD 3 0 % 5) (by omega) (by omega) (by omega) (by omega) (by omega) (xs.getD 4 0) (xs.getD 5 0)
  have hf0 : Few 40 (rng 0 0 r (xs.getD 3 0 % 5) u' v') := rng_few (by omega) (by omega) (by omega)
  have hl0 := rng_len 0 0 r (xs.getD 3 0 % 5) u' v'
  rw [e] at hfm hlm ⊢
  unfold good at hg
  rw [Bool.and_eq_true] at hg
  refine ⟨allap_move (m := 40) (by omega) hf0 (by omega) (by omega) hl0.1 hg.1, ?_⟩
  have q := of_decide_eq_true hg.2
  rw [← (twF_area hf0 hl0.2).1] at q
  rw [← (twF_area hfm hlm.2).1, twF_move (m := 40) (by omega) hf0 (by omega) (by omega) (by omega)]
  exact q
end Go.Proofs.Ytomnkdlfmjdckaa.Am.Sp
set_option linter.unusedVariables false
set_option linter.unusedSimpArgs false
namespace Go.Proofs.Ytomnkdlfmjdckaa.Am.Sp
open Go
section
variable {ps : List (Int × Int)} {a m k : Nat}
theorem rings_of (hl : 3 ≤ ps.length ∧ ps.length ≤ 8) (hf : Few 40 ps) (hg : allap ps ps.length = true ∧ 0 < areaN ps) (ha : a < ps.length) :
    (chkF ps = 0 ∧ chkF (rotL ps a).reverse = 0) ∧ ((twF ps 1 0 = areaN ps ∧ twF (rotL ps a) 1 0 = areaN ps ∧ twF (rotL ps a).reverse 1 0 = -areaN ps) ∧ areaN ps ≤ 51200) := by
  have h1 := allap_rot ha hl.1 hg.1
  have l1 := rotL_len (ps := ps) (a := a) (by omega)
  have f1 := few_rot (a := a) (by decide) hf
  have f2 := few_rev (by decide) f1
  have l2 : (rotL ps a).reverse.length = ps.length := by rw [List.length_reverse, l1]
  refine ⟨⟨chk_of hl.1 (by omega) (few_nok (by decide) hf) hg.1, chk_of (by omega) (by omega) (few_nok (by decide) f2) (allap_rev (by omega) h1)⟩, ⟨(twF_area hf hl.2).1, ?_, ?_⟩, (twF_area hf hl.2).2.2⟩
  · rw [(twF_area f1 (by omega)).1, area_rot ha]
  · rw [(twF_area f2 (by omega)).1, area_rev (by omega), area_rot ha]
theorem diffs_of (hl : 3 ≤ ps.length ∧ ps.length ≤ 8) (hf : Few 40 ps) (hg : allap ps ps.length = true ∧ 0 < areaN ps) (ha : a < ps.length) : Diff ps ∧ Diff (rotL ps a) ∧ Diff (rotL ps a).reverse := by
  have d := (chk_diff (rings_of hl hf hg ha).1.1).2
  exact ⟨d, diff_rot ha d, diff_rev (diff_rot ha d)⟩
end
end Go.Proofs.Ytomnkdlfmjdckaa.Am.Sp

namespace Go.Proofs.Ytomnkdlfmjdckaa.Am
open Go Go.Proofs
set_option maxRecDepth 100000
set_option maxHeartbeats 4000000
set_option linter.unusedVariables false
set_option linter.unusedSimpArgs false
theorem norm_n (ps qs : List (Int × Int)) (m N : Nat) (hN : ps.length = N) (hn : 1 ≤ N) (hz : N ≤ 4096) (hm : m < N) (hd : Sp.Diff ps) (hl : Sp.Least ps m) (e : Sp.nrmL ps m = qs) : AC Try.prog 14 1 [.slice (some ⟨0, 0, none⟩) N 0] [(0, ⟨(ps.flatMap ptc), 27, true, 2⟩)] (.slice (some ⟨1, 0, none⟩) N 0) [(0, ⟨(ps.flatMap ptc), 27, true, 2⟩), (1, ⟨(qs.flatMap ptc), 27, true, 2⟩)] := by
  subst hN
  subst e
  exact norm_own ps m hn hz hm hd hl
end Go.Proofs.Ytomnkdlfmjdckaa.Am

namespace Go.Proofs.Ytomnkdlfmjdckaa.Am
open Go Go.Proofs
set_option maxRecDepth 100000
set_option maxHeartbeats 4000000
set_option linter.unusedVariables false
set_option linter.unusedSimpArgs false
theorem ringat_ok (u v x y : Int) (h1 : -9223372036854775808 ≤ u + x) (h2 : u + x ≤ 9223372036854775807) (h3 : -9223372036854775808 ≤ v + y) (h4 : v + y ≤ 9223372036854775807) :
    AC Try.prog 53 2 ([.int .i64 x, .int .i64 y, .pointer (some ⟨0, 0, none⟩), .pointer (some ⟨1, 0, none⟩)]) [(0, ⟨[.int .i64 u], 3, true, 1⟩), (1, ⟨[.int .i64 v], 3, true, 1⟩)] (.agg #[.int .i64 (u + x), .int .i64 (v + y)]) [(0, ⟨[.int .i64 u], 3, true, 1⟩), (1, ⟨[.int .i64 v], 3, true, 1⟩)] := by
  refine ac_in Try.func53 (fun w0 W pin => ?_)
  refine aw_p 3 (
    .a 1 2 <| .nil _ _) ?_
  refine aw_p 7 (
    .a 2 3 <| .p (does_i (u + x) (wrap_i64 (by omega) (by omega)) .i64) <| .a 2 3 <| .p (does_i (v + y) (wrap_i64 (by omega) (by omega)) .i64) <| .a 2 3 <| .nil _ _) ?_
  refine aw_rt ?_
  exact en_ret [.agg #[.int .i64 (u + x), .int .i64 (v + y)]] (by kernel_rfl)
theorem nextz (xs : List Int) (p : Nat) (n : Int) (h0 : 0 < n) (hz : n ≤ 9223372036854775807) : AC Try.prog 26 2 [.pointer (some ⟨0, 0, none⟩), .int .i64 n] [(0, ⟨[.slice (some ⟨1, (min p xs.length), none⟩) (xs.length - p) 0], 60, true, 1⟩), (1, ⟨(xs.map i64v), 3, false, 1⟩)] (.int .i64 (xs.getD p 0 % n)) [(0, ⟨[.slice (some ⟨1, (min (p + 1) xs.length), none⟩) (xs.length - (p + 1)) 0], 60, true, 1⟩)] := by
  by_cases hp : p < xs.length
  · have h := next_ro xs p n hp h0 hz
    rw [show min p xs.length = p by omega, show min (p + 1) xs.length = p + 1 by omega, Nat.sub_add_eq]
    exact h
  · have h := next0_ro xs (min p xs.length) n (by omega)
    rw [show xs.length - min p xs.length = 0 by omega] at h
    rw [show min (p + 1) xs.length = min p xs.length by omega, show xs.length - p = 0 by omega, show xs.length - (p + 1) = 0 by omega, show xs.getD p 0 = 0 by simp [List.getD, List.getElem?_eq_none (Nat.le_of_not_lt hp)], Int.zero_emod]
    exact h
theorem nextz0 (xs : List Int) (n : Int) (h0 : 0 < n) (hz : n ≤ 9223372036854775807) : AC Try.prog 26 2 [.pointer (some ⟨0, 0, none⟩), .int .i64 n] [(0, ⟨[.slice (some ⟨1, 0, none⟩) (xs.length) 0], 60, true, 1⟩), (1, ⟨(xs.map i64v), 3, false, 1⟩)] (.int .i64 (xs.getD 0 0 % n)) [(0, ⟨[.slice (some ⟨1, (min (0 + 1) xs.length), none⟩) (xs.length - (0 + 1)) 0], 60, true, 1⟩)] := by
  have h := nextz xs 0 n h0 hz
  rw [Nat.zero_min, Nat.sub_zero] at h
  exact h
end Go.Proofs.Ytomnkdlfmjdckaa.Am

namespace Go.Proofs.Ytomnkdlfmjdckaa.Am
open Go Go.Proofs
set_option maxRecDepth 100000
set_option maxHeartbeats 4000000
set_option linter.unusedVariables false
set_option linter.unusedSimpArgs false
theorem ring_0 (xs : List Int) (x y r : Int) (x0 : -20 ≤ x) (x1 : x ≤ 20) (y0 : -20 ≤ y) (y1 : y ≤ 20) (r0 : 4 ≤ r) (r1 : r ≤ 19) (hs : xs.getD 3 0 % 5 = 0) :
    AC Try.prog 25 2 ([.pointer (some ⟨0, 0, none⟩), .int .i64 x, .int .i64 y, .int .i64 r]) [(0, ⟨[.slice (some ⟨1, (min 3 xs.length), none⟩) (xs.length - 3) 0], 60, true, 1⟩), (1, ⟨(xs.map i64v), 3, false, 1⟩)] (.slice (some ⟨2, 0, none⟩) 4 0) [(0, ⟨[.slice (some ⟨1, (min 4 xs.length), none⟩) (xs.length - 4) 0], 60, true, 1⟩), (2, ⟨[.int .i64 (x + (0 - r)), .int .i64 (y + (0 - r)), .int .i64 (x + r), .int .i64 (y + (0 - r)), .int .i64 (x + r), .int .i64 (y + r), .int .i64 (x + (0 - r)), .int .i64 (y + r)], 27, true, 2⟩)] := by
  have u2 := Sp.emod_bd (xs.getD 4 0) (n := 2 * r) (by omega); have v2 := Sp.emod_bd (xs.getD 5 0) (n := 2 * r) (by omega); have u1 := Sp.emod_bd (xs.getD 4 0) (n := r) (by omega); have v1 := Sp.emod_bd (xs.getD 5 0) (n := r) (by omega); have u3 := Sp.emod_bd (xs.getD 4 0) (n := r - 1) (by omega)
  refine ac_in Try.func25 (fun w0 W pin => ?_)
  refine aw_p 3 (
    .a 3 2 <| .nil _ _) ?_
  refine aw_p 7 (
    .a 2 4 <| .nil _ _) ?_
  refine aw_sq 14 15 ?_
  refine aw_p 29 (
    .a 1 4 <|
    .p (does_callB (x := .func 26) (ars := #[.tmp 14, .const (.int .i64 5)]) (ats := #[58, 3]) (g := 26) (vs := [.pointer (some ⟨0, 0, none⟩), .int .i64 5]) (m := 2) (r := 0) (firsts := #[]) (caps := #[]) (args0 := [.pointer (some ⟨0, 0, none⟩), .int .i64 5]) (pre0 := [(0, ⟨[.slice (some ⟨1, (min 3 xs.length), none⟩) (xs.length - 3) 0], 60, true, 1⟩), (1, ⟨(xs.map i64v), 3, false, 1⟩)]) (post0 := [(0, ⟨[.slice (some ⟨1, (min 4 xs.length), none⟩) (xs.length - 4) 0], 60, true, 1⟩)]) (pre := [(0, ⟨[.slice (some ⟨1, (min 3 xs.length), none⟩) (xs.length - 3) 0], 60, true, 1⟩), (1, ⟨(xs.map i64v), 3, false, 1⟩)]) (post := [(0, ⟨[.slice (some ⟨1, (min 4 xs.length), none⟩) (xs.length - 4) 0], 60, true, 1⟩)]) (v0 := .int .i64 (xs.getD 3 0 % 5)) (v := .int .i64 (xs.getD 3 0 % 5)) [0, 1] (by kernel_rfl) (by kernel_rfl) (by kernel_rfl) (by kernel_rfl) (nextz xs 3 5 (by decide) (by decide)) (.cons (.ptr _ _ (by decide)) (.cons (.flatB (by kernel_rfl)) .nil)) ⟨rfl, ⟨rfl, rfl, rfl, (.cons (.slice _ _ _ _ _ (by decide)) .nil)⟩, rfl, ⟨rfl, rfl, rfl, (.flats (flats_map (fun _ => rfl) _))⟩, trivial⟩ (by kernel_rfl) (by kernel_rfl) (by kernel_rfl) ⟨rfl, ⟨rfl, rfl, rfl, (.cons (.slice _ _ _ _ _ (by decide)) .nil)⟩, trivial⟩ (.flatB (by kernel_rfl))) <| .nil _ _) ?_
  refine aw_bl 0 59 ?_
  refine aw_p 119 (
    .p (does_b false ((show ((xs.getD 3 0 % 5) == 1) = false from (by rw [hs]; decide)))) <| .a 1 4 <| .nil _ _) ?_
  refine aw_fl 239 ?_
  refine aw_p 479 (
    .p (does_b false ((show ((xs.getD 3 0 % 5) == 2) = false from (by rw [hs]; decide)))) <| .a 1 4 <| .nil _ _) ?_
  refine aw_fl 959 ?_
  refine aw_p 1919 (
    .p (does_b false ((show ((xs.getD 3 0 % 5) == 3) = false from (by rw [hs]; decide)))) <| .a 1 4 <| .nil _ _) ?_
  refine aw_fl 3839 ?_
  refine aw_p 7679 (
    .p (does_b false ((show ((xs.getD 3 0 % 5) == 4) = false from (by rw [hs]; decide)))) <| .a 1 4 <| .nil _ _) ?_
  refine aw_fl 15359 ?_
  refine aw_sk ?_
  refine block_normal ?_
  refine then_normal ?_
  refine aw_p 31 (
    .a 2 4 <| .p (does_i (0 - r) (wrap_i64 (by omega) (by omega)) .i64) <| .a 1 4 <| .p (does_i (0 - r) (wrap_i64 (by omega) (by omega)) .i64) <| .p (does_k [2, 3] (ringat_ok x y (0 - r) (0 - r) (by omega) (by omega) (by omega) (by omega))) <| .a 3 4 <|
    .p (does_i (0 - r) (wrap_i64 (by omega) (by omega)) .i64) <| .p (does_k [2, 3] (ringat_ok x y r (0 - r) (by omega) (by omega) (by omega) (by omega))) <| .a 3 4 <| .p (does_k [2, 3] (ringat_ok x y r r (by omega) (by omega) (by omega) (by omega))) <| .a 2 4 <|
    .p (does_i (0 - r) (wrap_i64 (by omega) (by omega)) .i64) <| .a 1 4 <| .p (does_k [2, 3] (ringat_ok x y (0 - r) r (by omega) (by omega) (by omega) (by omega))) <| .a 2 4 <| .nil _ _) ?_
  refine aw_r [(2, 4)] [(8, .slice (some ⟨4, 0, none⟩) 4 0)] [(0, ⟨[.slice (some ⟨1, (min 4 xs.length), none⟩) (xs.length - 4) 0], 60, true, 1⟩), (1, ⟨(xs.map i64v), 3, false, 1⟩), (4, ⟨[.int .i64 (x + (0 - r)), .int .i64 (y + (0 - r)), .int .i64 (x + r), .int .i64 (y + (0 - r)), .int .i64 (x + r), .int .i64 (y + r), .int .i64 (x + (0 - r)), .int .i64 (y + r)], 27, true, 2⟩)] [(8, .slice (some ⟨2, 0, none⟩) 4 0)] [(0, ⟨[.slice (some ⟨1, (min 4 xs.length), none⟩) (xs.length - 4) 0], 60, true, 1⟩), (1, ⟨(xs.map i64v), 3, false, 1⟩), (2, ⟨[.int .i64 (x + (0 - r)), .int .i64 (y + (0 - r)), .int .i64 (x + r), .int .i64 (y + (0 - r)), .int .i64 (x + r), .int .i64 (y + r), .int .i64 (x + (0 - r)), .int .i64 (y + r)], 27, true, 2⟩)] ?_ ⟨rfl, (.slice _ _ _ _ _ rfl), trivial⟩ ⟨rfl, ⟨rfl, rfl, rfl, (.cons (.slice _ _ _ _ _ rfl) .nil)⟩, rfl, ⟨rfl, rfl, rfl, (.flats (flats_map (fun _ => rfl) _))⟩, rfl, ⟨rfl, rfl, rfl, (.flats (by kernel_rfl))⟩, trivial⟩
  refine aw_rt ?_
  exact en_ret [.slice (some ⟨2, 0, none⟩) 4 0] (by kernel_rfl)
theorem ring_1 (xs : List Int) (x y r : Int) (x0 : -20 ≤ x) (x1 : x ≤ 20) (y0 : -20 ≤ y) (y1 : y ≤ 20) (r0 : 4 ≤ r) (r1 : r ≤ 19) (hs : xs.getD 3 0 % 5 = 1) :
    AC Try.prog 25 2 ([.pointer (some ⟨0, 0, none⟩), .int .i64 x, .int .i64 y, .int .i64 r]) [(0, ⟨[.slice (some ⟨1, (min 3 xs.length), none⟩) (xs.length - 3) 0], 60, true, 1⟩), (1, ⟨(xs.map i64v), 3, false, 1⟩)] (.slice (some ⟨2, 0, none⟩) 3 0) [(0, ⟨[.slice (some ⟨1, (min 6 xs.length), none⟩) (xs.length - 6) 0], 60, true, 1⟩), (2, ⟨[.int .i64 (x + (0 - r)), .int .i64 (y + (0 - r)), .int .i64 (x + r), .int .i64 (y + (xs.getD 4 0 % (2 * r) - r)), .int .i64 (x + (xs.getD 5 0 % (2 * r) - r)), .int .i64 (y + r)], 27, true, 2⟩)] := by
  have u2 := Sp.emod_bd (xs.getD 4 0) (n := 2 * r) (by omega); have v2 := Sp.emod_bd (xs.getD 5 0) (n := 2 * r) (by omega); have u1 := Sp.emod_bd (xs.getD 4 0) (n := r) (by omega); have v1 := Sp.emod_bd (xs.getD 5 0) (n := r) (by omega); have u3 := Sp.emod_bd (xs.getD 4 0) (n := r - 1) (by omega)
  refine ac_in Try.func25 (fun w0 W pin => ?_)
  refine aw_p 3 (
    .a 3 2 <| .nil _ _) ?_
  refine aw_p 7 (
    .a 2 4 <| .nil _ _) ?_
  refine aw_sq 14 15 ?_
  refine aw_p 29 (
    .a 1 4 <|
    .p (does_callB (x := .func 26) (ars := #[.tmp 14, .const (.int .i64 5)]) (ats := #[58, 3]) (g := 26) (vs := [.pointer (some ⟨0, 0, none⟩), .int .i64 5]) (m := 2) (r := 0) (firsts := #[]) (caps := #[]) (args0 := [.pointer (some ⟨0, 0, none⟩), .int .i64 5]) (pre0 := [(0, ⟨[.slice (some ⟨1, (min 3 xs.length), none⟩) (xs.length - 3) 0], 60, true, 1⟩), (1, ⟨(xs.map i64v), 3, false, 1⟩)]) (post0 := [(0, ⟨[.slice (some ⟨1, (min 4 xs.length), none⟩) (xs.length - 4) 0], 60, true, 1⟩)]) (pre := [(0, ⟨[.slice (some ⟨1, (min 3 xs.length), none⟩) (xs.length - 3) 0], 60, true, 1⟩), (1, ⟨(xs.map i64v), 3, false, 1⟩)]) (post := [(0, ⟨[.slice (some ⟨1, (min 4 xs.length), none⟩) (xs.length - 4) 0], 60, true, 1⟩)]) (v0 := .int .i64 (xs.getD 3 0 % 5)) (v := .int .i64 (xs.getD 3 0 % 5)) [0, 1] (by kernel_rfl) (by kernel_rfl) (by kernel_rfl) (by kernel_rfl) (nextz xs 3 5 (by decide) (by decide)) (.cons (.ptr _ _ (by decide)) (.cons (.flatB (by kernel_rfl)) .nil)) ⟨rfl, ⟨rfl, rfl, rfl, (.cons (.slice _ _ _ _ _ (by decide)) .nil)⟩, rfl, ⟨rfl, rfl, rfl, (.flats (flats_map (fun _ => rfl) _))⟩, trivial⟩ (by kernel_rfl) (by kernel_rfl) (by kernel_rfl) ⟨rfl, ⟨rfl, rfl, rfl, (.cons (.slice _ _ _ _ _ (by decide)) .nil)⟩, trivial⟩ (.flatB (by kernel_rfl))) <| .nil _ _) ?_
  refine aw_bl 0 59 ?_
  refine aw_p 119 (
    .p (does_b true ((show ((xs.getD 3 0 % 5) == 1) = true from (by rw [hs]; decide)))) <| .a 1 4 <| .nil _ _) ?_
  refine aw_tr 238 ?_
  refine aw_p 477 (
    .a 2 4 <| .p (does_i (0 - r) (wrap_i64 (by omega) (by omega)) .i64) <| .a 1 4 <| .p (does_i (0 - r) (wrap_i64 (by omega) (by omega)) .i64) <| .p (does_k [2, 3] (ringat_ok x y (0 - r) (0 - r) (by omega) (by omega) (by omega) (by omega))) <| .a 4 4 <|
    .p (does_i (2 * r) (wrap_i64 (by omega) (by omega)) .i64) <|
    .p (does_callB (x := .func 26) (ars := #[.tmp 26, .tmp 28]) (ats := #[58, 3]) (g := 26) (vs := [.pointer (some ⟨0, 0, none⟩), .int .i64 (2 * r)]) (m := 2) (r := 0) (firsts := #[]) (caps := #[]) (args0 := [.pointer (some ⟨0, 0, none⟩), .int .i64 (2 * r)]) (pre0 := [(0, ⟨[.slice (some ⟨1, (min 4 xs.length), none⟩) (xs.length - 4) 0], 60, true, 1⟩), (1, ⟨(xs.map i64v), 3, false, 1⟩)]) (post0 := [(0, ⟨[.slice (some ⟨1, (min 5 xs.length), none⟩) (xs.length - 5) 0], 60, true, 1⟩)]) (pre := [(0, ⟨[.slice (some ⟨1, (min 4 xs.length), none⟩) (xs.length - 4) 0], 60, true, 1⟩), (1, ⟨(xs.map i64v), 3, false, 1⟩)]) (post := [(0, ⟨[.slice (some ⟨1, (min 5 xs.length), none⟩) (xs.length - 5) 0], 60, true, 1⟩)]) (v0 := .int .i64 (xs.getD 4 0 % (2 * r))) (v := .int .i64 (xs.getD 4 0 % (2 * r))) [0, 1] (by kernel_rfl) (by kernel_rfl) (by kernel_rfl) (by kernel_rfl) (nextz xs 4 (2 * r) (by omega) (by omega)) (.cons (.ptr _ _ (by decide)) (.cons (.flatB (by kernel_rfl)) .nil)) ⟨rfl, ⟨rfl, rfl, rfl, (.cons (.slice _ _ _ _ _ (by decide)) .nil)⟩, rfl, ⟨rfl, rfl, rfl, (.flats (flats_map (fun _ => rfl) _))⟩, trivial⟩ (by kernel_rfl) (by kernel_rfl) (by kernel_rfl) ⟨rfl, ⟨rfl, rfl, rfl, (.cons (.slice _ _ _ _ _ (by decide)) .nil)⟩, trivial⟩ (.flatB (by kernel_rfl))) <|
    .a 1 4 <| .p (does_i ((xs.getD 4 0 % (2 * r)) - r) (wrap_i64 (by omega) (by omega)) .i64) <| .p (does_k [2, 3] (ringat_ok x y r ((xs.getD 4 0 % (2 * r)) - r) (by omega) (by omega) (by omega) (by omega))) <| .a 3 4 <| .p (does_i (2 * r) (wrap_i64 (by omega) (by omega)) .i64) <|
    .p (does_callB (x := .func 26) (ars := #[.tmp 34, .tmp 36]) (ats := #[58, 3]) (g := 26) (vs := [.pointer (some ⟨0, 0, none⟩), .int .i64 (2 * r)]) (m := 2) (r := 0) (firsts := #[]) (caps := #[]) (args0 := [.pointer (some ⟨0, 0, none⟩), .int .i64 (2 * r)]) (pre0 := [(0, ⟨[.slice (some ⟨1, (min 5 xs.length), none⟩) (xs.length - 5) 0], 60, true, 1⟩), (1, ⟨(xs.map i64v), 3, false, 1⟩)]) (post0 := [(0, ⟨[.slice (some ⟨1, (min 6 xs.length), none⟩) (xs.length - 6) 0], 60, true, 1⟩)]) (pre := [(0, ⟨[.slice (some ⟨1, (min 5 xs.length), none⟩) (xs.length - 5) 0], 60, true, 1⟩), (1, ⟨(xs.map i64v), 3, false, 1⟩)]) (post := [(0, ⟨[.slice (some ⟨1, (min 6 xs.length), none⟩) (xs.length - 6) 0], 60, true, 1⟩)]) (v0 := .int .i64 (xs.getD 5 0 % (2 * r))) (v := .int .i64 (xs.getD 5 0 % (2 * r))) [0, 1] (by kernel_rfl) (by kernel_rfl) (by kernel_rfl) (by kernel_rfl) (nextz xs 5 (2 * r) (by omega) (by omega)) (.cons (.ptr _ _ (by decide)) (.cons (.flatB (by kernel_rfl)) .nil)) ⟨rfl, ⟨rfl, rfl, rfl, (.cons (.slice _ _ _ _ _ (by decide)) .nil)⟩, rfl, ⟨rfl, rfl, rfl, (.flats (flats_map (fun _ => rfl) _))⟩, trivial⟩ (by kernel_rfl) (by kernel_rfl) (by kernel_rfl) ⟨rfl, ⟨rfl, rfl, rfl, (.cons (.slice _ _ _ _ _ (by decide)) .nil)⟩, trivial⟩ (.flatB (by kernel_rfl))) <|
    .a 1 4 <| .p (does_i ((xs.getD 5 0 % (2 * r)) - r) (wrap_i64 (by omega) (by omega)) .i64) <| .a 1 4 <| .p (does_k [2, 3] (ringat_ok x y ((xs.getD 5 0 % (2 * r)) - r) r (by omega) (by omega) (by omega) (by omega))) <| .a 2 4 <| .nil _ _) ?_
  refine aw_r [(2, 4)] [(8, .slice (some ⟨4, 0, none⟩) 3 0)] [(0, ⟨[.slice (some ⟨1, (min 6 xs.length), none⟩) (xs.length - 6) 0], 60, true, 1⟩), (1, ⟨(xs.map i64v), 3, false, 1⟩), (4, ⟨[.int .i64 (x + (0 - r)), .int .i64 (y + (0 - r)), .int .i64 (x + r), .int .i64 (y + ((xs.getD 4 0 % (2 * r)) - r)), .int .i64 (x + ((xs.getD 5 0 % (2 * r)) - r)), .int .i64 (y + r)], 27, true, 2⟩)] [(8, .slice (some ⟨2, 0, none⟩) 3 0)] [(0, ⟨[.slice (some ⟨1, (min 6 xs.length), none⟩) (xs.length - 6) 0], 60, true, 1⟩), (1, ⟨(xs.map i64v), 3, false, 1⟩), (2, ⟨[.int .i64 (x + (0 - r)), .int .i64 (y + (0 - r)), .int .i64 (x + r), .int .i64 (y + ((xs.getD 4 0 % (2 * r)) - r)), .int .i64 (x + ((xs.getD 5 0 % (2 * r)) - r)), .int .i64 (y + r)], 27, true, 2⟩)] ?_ ⟨rfl, (.slice _ _ _ _ _ rfl), trivial⟩ ⟨rfl, ⟨rfl, rfl, rfl, (.cons (.slice _ _ _ _ _ rfl) .nil)⟩, rfl, ⟨rfl, rfl, rfl, (.flats (flats_map (fun _ => rfl) _))⟩, rfl, ⟨rfl, rfl, rfl, (.flats (by kernel_rfl))⟩, trivial⟩
  refine aw_rt ?_
  refine block_ret ?_
  refine then_ret ?_
  exact en_ret [.slice (some ⟨2, 0, none⟩) 3 0] (by kernel_rfl)
theorem ring_2 (xs : List Int) (x y r : Int) (x0 : -20 ≤ x) (x1 : x ≤ 20) (y0 : -20 ≤ y) (y1 : y ≤ 20) (r0 : 4 ≤ r) (r1 : r ≤ 19) (hs : xs.getD 3 0 % 5 = 2) :
    AC Try.prog 25 2 ([.pointer (some ⟨0, 0, none⟩), .int .i64 x, .int .i64 y, .int .i64 r]) [(0, ⟨[.slice (some ⟨1, (min 3 xs.length), none⟩) (xs.length - 3) 0], 60, true, 1⟩), (1, ⟨(xs.map i64v), 3, false, 1⟩)] (.slice (some ⟨2, 0, none⟩) 6 0) [(0, ⟨[.slice (some ⟨1, (min 6 xs.length), none⟩) (xs.length - 6) 0], 60, true, 1⟩), (2, ⟨[.int .i64 (x + (0 - r)), .int .i64 (y + (0 - r)), .int .i64 (x + r), .int .i64 (y + (0 - r)), .int .i64 (x + r), .int .i64 (y + (0 - xs.getD 5 0 % r)), .int .i64 (x + (0 - xs.getD 4 0 % r)), .int .i64 (y + (0 - xs.getD 5 0 % r)), .int .i64 (x + (0 - xs.getD 4 0 % r)), .int .i64 (y + r), .int .i64 (x + (0 - r)), .int .i64 (y + r)], 27, true, 2⟩)] := by
  have u2 := Sp.emod_bd (xs.getD 4 0) (n := 2 * r) (by omega); have v2 := Sp.emod_bd (xs.getD 5 0) (n := 2 * r) (by omega); have u1 := Sp.emod_bd (xs.getD 4 0) (n := r) (by omega); have v1 := Sp.emod_bd (xs.getD 5 0) (n := r) (by omega); have u3 := Sp.emod_bd (xs.getD 4 0) (n := r - 1) (by omega)
  refine ac_in Try.func25 (fun w0 W pin => ?_)
  refine aw_p 3 (
    .a 3 2 <| .nil _ _) ?_
  refine aw_p 7 (
    .a 2 4 <| .nil _ _) ?_
  refine aw_sq 14 15 ?_
  refine aw_p 29 (
    .a 1 4 <|
    .p (does_callB (x := .func 26) (ars := #[.tmp 14, .const (.int .i64 5)]) (ats := #[58, 3]) (g := 26) (vs := [.pointer (some ⟨0, 0, none⟩), .int .i64 5]) (m := 2) (r := 0) (firsts := #[]) (caps := #[]) (args0 := [.pointer (some ⟨0, 0, none⟩), .int .i64 5]) (pre0 := [(0, ⟨[.slice (some ⟨1, (min 3 xs.length), none⟩) (xs.length - 3) 0], 60, true, 1⟩), (1, ⟨(xs.map i64v), 3, false, 1⟩)]) (post0 := [(0, ⟨[.slice (some ⟨1, (min 4 xs.length), none⟩) (xs.length - 4) 0], 60, true, 1⟩)]) (pre := [(0, ⟨[.slice (some ⟨1, (min 3 xs.length), none⟩) (xs.length - 3) 0], 60, true, 1⟩), (1, ⟨(xs.map i64v), 3, false, 1⟩)]) (post := [(0, ⟨[.slice (some ⟨1, (min 4 xs.length), none⟩) (xs.length - 4) 0], 60, true, 1⟩)]) (v0 := .int .i64 (xs.getD 3 0 % 5)) (v := .int .i64 (xs.getD 3 0 % 5)) [0, 1] (by kernel_rfl) (by kernel_rfl) (by kernel_rfl) (by kernel_rfl) (nextz xs 3 5 (by decide) (by decide)) (.cons (.ptr _ _ (by decide)) (.cons (.flatB (by kernel_rfl)) .nil)) ⟨rfl, ⟨rfl, rfl, rfl, (.cons (.slice _ _ _ _ _ (by decide)) .nil)⟩, rfl, ⟨rfl, rfl, rfl, (.flats (flats_map (fun _ => rfl) _))⟩, trivial⟩ (by kernel_rfl) (by kernel_rfl) (by kernel_rfl) ⟨rfl, ⟨rfl, rfl, rfl, (.cons (.slice _ _ _ _ _ (by decide)) .nil)⟩, trivial⟩ (.flatB (by kernel_rfl))) <| .nil _ _) ?_
  refine aw_bl 0 59 ?_
  refine aw_p 119 (
    .p (does_b false ((show ((xs.getD 3 0 % 5) == 1) = false from (by rw [hs]; decide)))) <| .a 1 4 <| .nil _ _) ?_
  refine aw_fl 239 ?_
  refine aw_p 479 (
    .p (does_b true ((show ((xs.getD 3 0 % 5) == 2) = true from (by rw [hs]; decide)))) <| .a 1 4 <| .nil _ _) ?_
  refine aw_tr 958 ?_
  refine aw_p 1917 (
    .a 2 4 <|
    .p (does_callB (x := .func 26) (ars := #[.tmp 45, .tmp 46]) (ats := #[58, 3]) (g := 26) (vs := [.pointer (some ⟨0, 0, none⟩), .int .i64 r]) (m := 2) (r := 0) (firsts := #[]) (caps := #[]) (args0 := [.pointer (some ⟨0, 0, none⟩), .int .i64 r]) (pre0 := [(0, ⟨[.slice (some ⟨1, (min 4 xs.length), none⟩) (xs.length - 4) 0], 60, true, 1⟩), (1, ⟨(xs.map i64v), 3, false, 1⟩)]) (post0 := [(0, ⟨[.slice (some ⟨1, (min 5 xs.length), none⟩) (xs.length - 5) 0], 60, true, 1⟩)]) (pre := [(0, ⟨[.slice (some ⟨1, (min 4 xs.length), none⟩) (xs.length - 4) 0], 60, true, 1⟩), (1, ⟨(xs.map i64v), 3, false, 1⟩)]) (post := [(0, ⟨[.slice (some ⟨1, (min 5 xs.length), none⟩) (xs.length - 5) 0], 60, true, 1⟩)]) (v0 := .int .i64 (xs.getD 4 0 % r)) (v := .int .i64 (xs.getD 4 0 % r)) [0, 1] (by kernel_rfl) (by kernel_rfl) (by kernel_rfl) (by kernel_rfl) (nextz xs 4 r (by omega) (by omega)) (.cons (.ptr _ _ (by decide)) (.cons (.flatB (by kernel_rfl)) .nil)) ⟨rfl, ⟨rfl, rfl, rfl, (.cons (.slice _ _ _ _ _ (by decide)) .nil)⟩, rfl, ⟨rfl, rfl, rfl, (.flats (flats_map (fun _ => rfl) _))⟩, trivial⟩ (by kernel_rfl) (by kernel_rfl) (by kernel_rfl) ⟨rfl, ⟨rfl, rfl, rfl, (.cons (.slice _ _ _ _ _ (by decide)) .nil)⟩, trivial⟩ (.flatB (by kernel_rfl))) <|
    .a 2 4 <|
    .p (does_callB (x := .func 26) (ars := #[.tmp 48, .tmp 49]) (ats := #[58, 3]) (g := 26) (vs := [.pointer (some ⟨0, 0, none⟩), .int .i64 r]) (m := 2) (r := 0) (firsts := #[]) (caps := #[]) (args0 := [.pointer (some ⟨0, 0, none⟩), .int .i64 r]) (pre0 := [(0, ⟨[.slice (some ⟨1, (min 5 xs.length), none⟩) (xs.length - 5) 0], 60, true, 1⟩), (1, ⟨(xs.map i64v), 3, false, 1⟩)]) (post0 := [(0, ⟨[.slice (some ⟨1, (min 6 xs.length), none⟩) (xs.length - 6) 0], 60, true, 1⟩)]) (pre := [(0, ⟨[.slice (some ⟨1, (min 5 xs.length), none⟩) (xs.length - 5) 0], 60, true, 1⟩), (1, ⟨(xs.map i64v), 3, false, 1⟩)]) (post := [(0, ⟨[.slice (some ⟨1, (min 6 xs.length), none⟩) (xs.length - 6) 0], 60, true, 1⟩)]) (v0 := .int .i64 (xs.getD 5 0 % r)) (v := .int .i64 (xs.getD 5 0 % r)) [0, 1] (by kernel_rfl) (by kernel_rfl) (by kernel_rfl) (by kernel_rfl) (nextz xs 5 r (by omega) (by omega)) (.cons (.ptr _ _ (by decide)) (.cons (.flatB (by kernel_rfl)) .nil)) ⟨rfl, ⟨rfl, rfl, rfl, (.cons (.slice _ _ _ _ _ (by decide)) .nil)⟩, rfl, ⟨rfl, rfl, rfl, (.flats (flats_map (fun _ => rfl) _))⟩, trivial⟩ (by kernel_rfl) (by kernel_rfl) (by kernel_rfl) ⟨rfl, ⟨rfl, rfl, rfl, (.cons (.slice _ _ _ _ _ (by decide)) .nil)⟩, trivial⟩ (.flatB (by kernel_rfl))) <|
    .a 2 4 <| .nil _ _) ?_
  refine aw_p 3835 (
    .a 2 4 <| .p (does_i (0 - r) (wrap_i64 (by omega) (by omega)) .i64) <| .a 1 4 <| .p (does_i (0 - r) (wrap_i64 (by omega) (by omega)) .i64) <| .p (does_k [2, 3] (ringat_ok x y (0 - r) (0 - r) (by omega) (by omega) (by omega) (by omega))) <| .a 3 4 <|
    .p (does_i (0 - r) (wrap_i64 (by omega) (by omega)) .i64) <| .p (does_k [2, 3] (ringat_ok x y r (0 - r) (by omega) (by omega) (by omega) (by omega))) <| .a 3 4 <| .p (does_i (0 - (xs.getD 5 0 % r)) (wrap_i64 (by omega) (by omega)) .i64) <|
    .p (does_k [2, 3] (ringat_ok x y r (0 - (xs.getD 5 0 % r)) (by omega) (by omega) (by omega) (by omega))) <| .a 2 4 <| .p (does_i (0 - (xs.getD 4 0 % r)) (wrap_i64 (by omega) (by omega)) .i64) <| .a 1 4 <| .p (does_i (0 - (xs.getD 5 0 % r)) (wrap_i64 (by omega) (by omega)) .i64) <|
    .p (does_k [2, 3] (ringat_ok x y (0 - (xs.getD 4 0 % r)) (0 - (xs.getD 5 0 % r)) (by omega) (by omega) (by omega) (by omega))) <| .a 2 4 <| .p (does_i (0 - (xs.getD 4 0 % r)) (wrap_i64 (by omega) (by omega)) .i64) <| .a 1 4 <|
    .p (does_k [2, 3] (ringat_ok x y (0 - (xs.getD 4 0 % r)) r (by omega) (by omega) (by omega) (by omega))) <| .a 2 4 <| .p (does_i (0 - r) (wrap_i64 (by omega) (by omega)) .i64) <| .a 1 4 <| .p (does_k [2, 3] (ringat_ok x y (0 - r) r (by omega) (by omega) (by omega) (by omega))) <| .a 2 4 <| .nil _ _) ?_
  refine aw_r [(2, 4)] [(8, .slice (some ⟨4, 0, none⟩) 6 0)] [(0, ⟨[.slice (some ⟨1, (min 6 xs.length), none⟩) (xs.length - 6) 0], 60, true, 1⟩), (1, ⟨(xs.map i64v), 3, false, 1⟩), (4, ⟨[.int .i64 (x + (0 - r)), .int .i64 (y + (0 - r)), .int .i64 (x + r), .int .i64 (y + (0 - r)), .int .i64 (x + r), .int .i64 (y + (0 - (xs.getD 5 0 % r))), .int .i64 (x + (0 - (xs.getD 4 0 % r))), .int .i64 (y + (0 - (xs.getD 5 0 % r))), .int .i64 (x + (0 - (xs.getD 4 0 % r))), .int .i64 (y + r), .int .i64 (x + (0 - r)), .int .i64 (y + r)], 27, true, 2⟩)] [(8, .slice (some ⟨2, 0, none⟩) 6 0)] [(0, ⟨[.slice (some ⟨1, (min 6 xs.length), none⟩) (xs.length - 6) 0], 60, true, 1⟩), (1, ⟨(xs.map i64v), 3, false, 1⟩), (2, ⟨[.int .i64 (x + (0 - r)), .int .i64 (y + (0 - r)), .int .i64 (x + r), .int .i64 (y + (0 - r)), .int .i64 (x + r), .int .i64 (y + (0 - (xs.getD 5 0 % r))), .int .i64 (x + (0 - (xs.getD 4 0 % r))), .int .i64 (y + (0 - (xs.getD 5 0 % r))), .int .i64 (x + (0 - (xs.getD 4 0 % r))), .int .i64 (y + r), .int .i64 (x + (0 - r)), .int .i64 (y + r)], 27, true, 2⟩)] ?_ ⟨rfl, (.slice _ _ _ _ _ rfl), trivial⟩ ⟨rfl, ⟨rfl, rfl, rfl, (.cons (.slice _ _ _ _ _ rfl) .nil)⟩, rfl, ⟨rfl, rfl, rfl, (.flats (flats_map (fun _ => rfl) _))⟩, rfl, ⟨rfl, rfl, rfl, (.flats (by kernel_rfl))⟩, trivial⟩
  refine aw_rt ?_
  refine block_ret ?_
  refine then_ret ?_
  exact en_ret [.slice (some ⟨2, 0, none⟩) 6 0] (by kernel_rfl)
theorem ring_3 (xs : List Int) (x y r : Int) (x0 : -20 ≤ x) (x1 : x ≤ 20) (y0 : -20 ≤ y) (y1 : y ≤ 20) (r0 : 4 ≤ r) (r1 : r ≤ 19) (hs : xs.getD 3 0 % 5 = 3) :
    AC Try.prog 25 2 ([.pointer (some ⟨0, 0, none⟩), .int .i64 x, .int .i64 y, .int .i64 r]) [(0, ⟨[.slice (some ⟨1, (min 3 xs.length), none⟩) (xs.length - 3) 0], 60, true, 1⟩), (1, ⟨(xs.map i64v), 3, false, 1⟩)] (.slice (some ⟨2, 0, none⟩) 4 0) [(0, ⟨[.slice (some ⟨1, (min 5 xs.length), none⟩) (xs.length - 5) 0], 60, true, 1⟩), (2, ⟨[.int .i64 (x + (0 - r)), .int .i64 (y + (0 - r)), .int .i64 (x + 0), .int .i64 (y + (-1 - xs.getD 4 0 % (r - 1))), .int .i64 (x + r), .int .i64 (y + (0 - r)), .int .i64 (x + 0), .int .i64 (y + r)], 27, true, 2⟩)] := by
  have u2 := Sp.emod_bd (xs.getD 4 0) (n := 2 * r) (by omega); have v2 := Sp.emod_bd (xs.getD 5 0) (n := 2 * r) (by omega); have u1 := Sp.emod_bd (xs.getD 4 0) (n := r) (by omega); have v1 := Sp.emod_bd (xs.getD 5 0) (n := r) (by omega); have u3 := Sp.emod_bd (xs.getD 4 0) (n := r - 1) (by omega)
  refine ac_in Try.func25 (fun w0 W pin => ?_)
  refine aw_p 3 (
    .a 3 2 <| .nil _ _) ?_
  refine aw_p 7 (
    .a 2 4 <| .nil _ _) ?_
  refine aw_sq 14 15 ?_
  refine aw_p 29 (
    .a 1 4 <|
    .p (does_callB (x := .func 26) (ars := #[.tmp 14, .const (.int .i64 5)]) (ats := #[58, 3]) (g := 26) (vs := [.pointer (some ⟨0, 0, none⟩), .int .i64 5]) (m := 2) (r := 0) (firsts := #[]) (caps := #[]) (args0 := [.pointer (some ⟨0, 0, none⟩), .int .i64 5]) (pre0 := [(0, ⟨[.slice (some ⟨1, (min 3 xs.length), none⟩) (xs.length - 3) 0], 60, true, 1⟩), (1, ⟨(xs.map i64v), 3, false, 1⟩)]) (post0 := [(0, ⟨[.slice (some ⟨1, (min 4 xs.length), none⟩) (xs.length - 4) 0], 60, true, 1⟩)]) (pre := [(0, ⟨[.slice (some ⟨1, (min 3 xs.length), none⟩) (xs.length - 3) 0], 60, true, 1⟩), (1, ⟨(xs.map i64v), 3, false, 1⟩)]) (post := [(0, ⟨[.slice (some ⟨1, (min 4 xs.length), none⟩) (xs.length - 4) 0], 60, true, 1⟩)]) (v0 := .int .i64 (xs.getD 3 0 % 5)) (v := .int .i64 (xs.getD 3 0 % 5)) [0, 1] (by kernel_rfl) (by kernel_rfl) (by kernel_rfl) (by kernel_rfl) (nextz xs 3 5 (by decide) (by decide)) (.cons (.ptr _ _ (by decide)) (.cons (.flatB (by kernel_rfl)) .nil)) ⟨rfl, ⟨rfl, rfl, rfl, (.cons (.slice _ _ _ _ _ (by decide)) .nil)⟩, rfl, ⟨rfl, rfl, rfl, (.flats (flats_map (fun _ => rfl) _))⟩, trivial⟩ (by kernel_rfl) (by kernel_rfl) (by kernel_rfl) ⟨rfl, ⟨rfl, rfl, rfl, (.cons (.slice _ _ _ _ _ (by decide)) .nil)⟩, trivial⟩ (.flatB (by kernel_rfl))) <| .nil _ _) ?_
  refine aw_bl 0 59 ?_
  refine aw_p 119 (
    .p (does_b false ((show ((xs.getD 3 0 % 5) == 1) = false from (by rw [hs]; decide)))) <| .a 1 4 <| .nil _ _) ?_
  refine aw_fl 239 ?_
  refine aw_p 479 (
    .p (does_b false ((show ((xs.getD 3 0 % 5) == 2) = false from (by rw [hs]; decide)))) <| .a 1 4 <| .nil _ _) ?_
  refine aw_fl 959 ?_
  refine aw_p 1919 (
    .p (does_b true ((show ((xs.getD 3 0 % 5) == 3) = true from (by rw [hs]; decide)))) <| .a 1 4 <| .nil _ _) ?_
  refine aw_tr 3838 ?_
  refine aw_p 7677 (
    .a 2 4 <| .p (does_i (0 - r) (wrap_i64 (by omega) (by omega)) .i64) <| .a 1 4 <| .p (does_i (0 - r) (wrap_i64 (by omega) (by omega)) .i64) <| .p (does_k [2, 3] (ringat_ok x y (0 - r) (0 - r) (by omega) (by omega) (by omega) (by omega))) <| .a 3 4 <|
    .p (does_i (r - 1) (wrap_i64 (by omega) (by omega)) .i64) <|
    .p (does_callB (x := .func 26) (ars := #[.tmp 93, .tmp 95]) (ats := #[58, 3]) (g := 26) (vs := [.pointer (some ⟨0, 0, none⟩), .int .i64 (r - 1)]) (m := 2) (r := 0) (firsts := #[]) (caps := #[]) (args0 := [.pointer (some ⟨0, 0, none⟩), .int .i64 (r - 1)]) (pre0 := [(0, ⟨[.slice (some ⟨1, (min 4 xs.length), none⟩) (xs.length - 4) 0], 60, true, 1⟩), (1, ⟨(xs.map i64v), 3, false, 1⟩)]) (post0 := [(0, ⟨[.slice (some ⟨1, (min 5 xs.length), none⟩) (xs.length - 5) 0], 60, true, 1⟩)]) (pre := [(0, ⟨[.slice (some ⟨1, (min 4 xs.length), none⟩) (xs.length - 4) 0], 60, true, 1⟩), (1, ⟨(xs.map i64v), 3, false, 1⟩)]) (post := [(0, ⟨[.slice (some ⟨1, (min 5 xs.length), none⟩) (xs.length - 5) 0], 60, true, 1⟩)]) (v0 := .int .i64 (xs.getD 4 0 % (r - 1))) (v := .int .i64 (xs.getD 4 0 % (r - 1))) [0, 1] (by kernel_rfl) (by kernel_rfl) (by kernel_rfl) (by kernel_rfl) (nextz xs 4 (r - 1) (by omega) (by omega)) (.cons (.ptr _ _ (by decide)) (.cons (.flatB (by kernel_rfl)) .nil)) ⟨rfl, ⟨rfl, rfl, rfl, (.cons (.slice _ _ _ _ _ (by decide)) .nil)⟩, rfl, ⟨rfl, rfl, rfl, (.flats (flats_map (fun _ => rfl) _))⟩, trivial⟩ (by kernel_rfl) (by kernel_rfl) (by kernel_rfl) ⟨rfl, ⟨rfl, rfl, rfl, (.cons (.slice _ _ _ _ _ (by decide)) .nil)⟩, trivial⟩ (.flatB (by kernel_rfl))) <|
    .p (does_i ((-1) - (xs.getD 4 0 % (r - 1))) (wrap_i64 (by omega) (by omega)) .i64) <| .p (does_k [2, 3] (ringat_ok x y 0 ((-1) - (xs.getD 4 0 % (r - 1))) (by omega) (by omega) (by omega) (by omega))) <| .a 3 4 <| .p (does_i (0 - r) (wrap_i64 (by omega) (by omega)) .i64) <|
    .p (does_k [2, 3] (ringat_ok x y r (0 - r) (by omega) (by omega) (by omega) (by omega))) <| .a 2 4 <| .p (does_k [2, 3] (ringat_ok x y 0 r (by omega) (by omega) (by omega) (by omega))) <| .a 2 4 <| .nil _ _) ?_
  refine aw_r [(2, 4)] [(8, .slice (some ⟨4, 0, none⟩) 4 0)] [(0, ⟨[.slice (some ⟨1, (min 5 xs.length), none⟩) (xs.length - 5) 0], 60, true, 1⟩), (1, ⟨(xs.map i64v), 3, false, 1⟩), (4, ⟨[.int .i64 (x + (0 - r)), .int .i64 (y + (0 - r)), .int .i64 (x + 0), .int .i64 (y + ((-1) - (xs.getD 4 0 % (r - 1)))), .int .i64 (x + r), .int .i64 (y + (0 - r)), .int .i64 (x + 0), .int .i64 (y + r)], 27, true, 2⟩)] [(8, .slice (some ⟨2, 0, none⟩) 4 0)] [(0, ⟨[.slice (some ⟨1, (min 5 xs.length), none⟩) (xs.length - 5) 0], 60, true, 1⟩), (1, ⟨(xs.map i64v), 3, false, 1⟩), (2, ⟨[.int .i64 (x + (0 - r)), .int .i64 (y + (0 - r)), .int .i64 (x + 0), .int .i64 (y + ((-1) - (xs.getD 4 0 % (r - 1)))), .int .i64 (x + r), .int .i64 (y + (0 - r)), .int .i64 (x + 0), .int .i64 (y + r)], 27, true, 2⟩)] ?_ ⟨rfl, (.slice _ _ _ _ _ rfl), trivial⟩ ⟨rfl, ⟨rfl, rfl, rfl, (.cons (.slice _ _ _ _ _ rfl) .nil)⟩, rfl, ⟨rfl, rfl, rfl, (.flats (flats_map (fun _ => rfl) _))⟩, rfl, ⟨rfl, rfl, rfl, (.flats (by kernel_rfl))⟩, trivial⟩
  refine aw_rt ?_
  refine block_ret ?_
  refine then_ret ?_
  exact en_ret [.slice (some ⟨2, 0, none⟩) 4 0] (by kernel_rfl)
theorem ring_4 (xs : List Int) (x y r : Int) (x0 : -20 ≤ x) (x1 : x ≤ 20) (y0 : -20 ≤ y) (y1 : y ≤ 20) (r0 : 4 ≤ r) (r1 : r ≤ 19) (hs : xs.getD 3 0 % 5 = 4) :
    AC Try.prog 25 2 ([.pointer (some ⟨0, 0, none⟩), .int .i64 x, .int .i64 y, .int .i64 r]) [(0, ⟨[.slice (some ⟨1, (min 3 xs.length), none⟩) (xs.length - 3) 0], 60, true, 1⟩), (1, ⟨(xs.map i64v), 3, false, 1⟩)] (.slice (some ⟨2, 0, none⟩) 8 0) [(0, ⟨[.slice (some ⟨1, (min 5 xs.length), none⟩) (xs.length - 5) 0], 60, true, 1⟩), (2, ⟨[.int .i64 (x + (0 - r)), .int .i64 (y + (0 - (1 + xs.getD 4 0 % (r - 1)))), .int .i64 (x + (0 - (1 + xs.getD 4 0 % (r - 1)))), .int .i64 (y + (0 - r)), .int .i64 (x + (1 + xs.getD 4 0 % (r - 1))), .int .i64 (y + (0 - r)), .int .i64 (x + r), .int .i64 (y + (0 - (1 + xs.getD 4 0 % (r - 1)))), .int .i64 (x + r), .int .i64 (y + (1 + xs.getD 4 0 % (r - 1))), .int .i64 (x + (1 + xs.getD 4 0 % (r - 1))), .int .i64 (y + r), .int .i64 (x + (0 - (1 + xs.getD 4 0 % (r - 1)))), .int .i64 (y + r), .int .i64 (x + (0 - r)), .int .i64 (y + (1 + xs.getD 4 0 % (r - 1)))], 27, true, 2⟩)] := by
  have u2 := Sp.emod_bd (xs.getD 4 0) (n := 2 * r) (by omega); have v2 := Sp.emod_bd (xs.getD 5 0) (n := 2 * r) (by omega); have u1 := Sp.emod_bd (xs.getD 4 0) (n := r) (by omega); have v1 := Sp.emod_bd (xs.getD 5 0) (n := r) (by omega); have u3 := Sp.emod_bd (xs.getD 4 0) (n := r - 1) (by omega)
  refine ac_in Try.func25 (fun w0 W pin => ?_)
  refine aw_p 3 (
    .a 3 2 <| .nil _ _) ?_
  refine aw_p 7 (
    .a 2 4 <| .nil _ _) ?_
  refine aw_sq 14 15 ?_
  refine aw_p 29 (
    .a 1 4 <|
    .p (does_callB (x := .func 26) (ars := #[.tmp 14, .const (.int .i64 5)]) (ats := #[58, 3]) (g := 26) (vs := [.pointer (some ⟨0, 0, none⟩), .int .i64 5]) (m := 2) (r := 0) (firsts := #[]) (caps := #[]) (args0 := [.pointer (some ⟨0, 0, none⟩), .int .i64 5]) (pre0 := [(0, ⟨[.slice (some ⟨1, (min 3 xs.length), none⟩) (xs.length - 3) 0], 60, true, 1⟩), (1, ⟨(xs.map i64v), 3, false, 1⟩)]) (post0 := [(0, ⟨[.slice (some ⟨1, (min 4 xs.length), none⟩) (xs.length - 4) 0], 60, true, 1⟩)]) (pre := [(0, ⟨[.slice (some ⟨1, (min 3 xs.length), none⟩) (xs.length - 3) 0], 60, true, 1⟩), (1, ⟨(xs.map i64v), 3, false, 1⟩)]) (post := [(0, ⟨[.slice (some ⟨1, (min 4 xs.length), none⟩) (xs.length - 4) 0], 60, true, 1⟩)]) (v0 := .int .i64 (xs.getD 3 0 % 5)) (v := .int .i64 (xs.getD 3 0 % 5)) [0, 1] (by kernel_rfl) (by kernel_rfl) (by kernel_rfl) (by kernel_rfl) (nextz xs 3 5 (by decide) (by decide)) (.cons (.ptr _ _ (by decide)) (.cons (.flatB (by kernel_rfl)) .nil)) ⟨rfl, ⟨rfl, rfl, rfl, (.cons (.slice _ _ _ _ _ (by decide)) .nil)⟩, rfl, ⟨rfl, rfl, rfl, (.flats (flats_map (fun _ => rfl) _))⟩, trivial⟩ (by kernel_rfl) (by kernel_rfl) (by kernel_rfl) ⟨rfl, ⟨rfl, rfl, rfl, (.cons (.slice _ _ _ _ _ (by decide)) .nil)⟩, trivial⟩ (.flatB (by kernel_rfl))) <| .nil _ _) ?_
  refine aw_bl 0 59 ?_
  refine aw_p 119 (
    .p (does_b false ((show ((xs.getD 3 0 % 5) == 1) = false from (by rw [hs]; decide)))) <| .a 1 4 <| .nil _ _) ?_
  refine aw_fl 239 ?_
  refine aw_p 479 (
    .p (does_b false ((show ((xs.getD 3 0 % 5) == 2) = false from (by rw [hs]; decide)))) <| .a 1 4 <| .nil _ _) ?_
  refine aw_fl 959 ?_
  refine aw_p 1919 (
    .p (does_b false ((show ((xs.getD 3 0 % 5) == 3) = false from (by rw [hs]; decide)))) <| .a 1 4 <| .nil _ _) ?_
  refine aw_fl 3839 ?_
  refine aw_p 7679 (
    .p (does_b true ((show ((xs.getD 3 0 % 5) == 4) = true from (by rw [hs]; decide)))) <| .a 1 4 <| .nil _ _) ?_
  refine aw_tr 15358 ?_
  refine aw_p 30717 (
    .a 2 4 <| .p (does_i (r - 1) (wrap_i64 (by omega) (by omega)) .i64) <|
    .p (does_callB (x := .func 26) (ars := #[.tmp 110, .tmp 112]) (ats := #[58, 3]) (g := 26) (vs := [.pointer (some ⟨0, 0, none⟩), .int .i64 (r - 1)]) (m := 2) (r := 0) (firsts := #[]) (caps := #[]) (args0 := [.pointer (some ⟨0, 0, none⟩), .int .i64 (r - 1)]) (pre0 := [(0, ⟨[.slice (some ⟨1, (min 4 xs.length), none⟩) (xs.length - 4) 0], 60, true, 1⟩), (1, ⟨(xs.map i64v), 3, false, 1⟩)]) (post0 := [(0, ⟨[.slice (some ⟨1, (min 5 xs.length), none⟩) (xs.length - 5) 0], 60, true, 1⟩)]) (pre := [(0, ⟨[.slice (some ⟨1, (min 4 xs.length), none⟩) (xs.length - 4) 0], 60, true, 1⟩), (1, ⟨(xs.map i64v), 3, false, 1⟩)]) (post := [(0, ⟨[.slice (some ⟨1, (min 5 xs.length), none⟩) (xs.length - 5) 0], 60, true, 1⟩)]) (v0 := .int .i64 (xs.getD 4 0 % (r - 1))) (v := .int .i64 (xs.getD 4 0 % (r - 1))) [0, 1] (by kernel_rfl) (by kernel_rfl) (by kernel_rfl) (by kernel_rfl) (nextz xs 4 (r - 1) (by omega) (by omega)) (.cons (.ptr _ _ (by decide)) (.cons (.flatB (by kernel_rfl)) .nil)) ⟨rfl, ⟨rfl, rfl, rfl, (.cons (.slice _ _ _ _ _ (by decide)) .nil)⟩, rfl, ⟨rfl, rfl, rfl, (.flats (flats_map (fun _ => rfl) _))⟩, trivial⟩ (by kernel_rfl) (by kernel_rfl) (by kernel_rfl) ⟨rfl, ⟨rfl, rfl, rfl, (.cons (.slice _ _ _ _ _ (by decide)) .nil)⟩, trivial⟩ (.flatB (by kernel_rfl))) <|
    .p (does_i (1 + (xs.getD 4 0 % (r - 1))) (wrap_i64 (by omega) (by omega)) .i64) <| .a 1 4 <| .nil _ _) ?_
  refine aw_p 61435 (
    .a 2 4 <| .p (does_i (0 - r) (wrap_i64 (by omega) (by omega)) .i64) <| .a 1 4 <| .p (does_i (0 - (1 + (xs.getD 4 0 % (r - 1)))) (wrap_i64 (by omega) (by omega)) .i64) <| .p (does_k [2, 3] (ringat_ok x y (0 - r) (0 - (1 + (xs.getD 4 0 % (r - 1)))) (by omega) (by omega) (by omega) (by omega))) <|
    .a 2 4 <| .p (does_i (0 - (1 + (xs.getD 4 0 % (r - 1)))) (wrap_i64 (by omega) (by omega)) .i64) <| .a 1 4 <| .p (does_i (0 - r) (wrap_i64 (by omega) (by omega)) .i64) <| .p (does_k [2, 3] (ringat_ok x y (0 - (1 + (xs.getD 4 0 % (r - 1)))) (0 - r) (by omega) (by omega) (by omega) (by omega))) <|
    .a 3 4 <| .p (does_i (0 - r) (wrap_i64 (by omega) (by omega)) .i64) <| .p (does_k [2, 3] (ringat_ok x y (1 + (xs.getD 4 0 % (r - 1))) (0 - r) (by omega) (by omega) (by omega) (by omega))) <| .a 3 4 <| .p (does_i (0 - (1 + (xs.getD 4 0 % (r - 1)))) (wrap_i64 (by omega) (by omega)) .i64) <|
    .p (does_k [2, 3] (ringat_ok x y r (0 - (1 + (xs.getD 4 0 % (r - 1)))) (by omega) (by omega) (by omega) (by omega))) <| .a 3 4 <| .p (does_k [2, 3] (ringat_ok x y r (1 + (xs.getD 4 0 % (r - 1))) (by omega) (by omega) (by omega) (by omega))) <| .a 3 4 <|
    .p (does_k [2, 3] (ringat_ok x y (1 + (xs.getD 4 0 % (r - 1))) r (by omega) (by omega) (by omega) (by omega))) <| .a 2 4 <| .p (does_i (0 - (1 + (xs.getD 4 0 % (r - 1)))) (wrap_i64 (by omega) (by omega)) .i64) <| .a 1 4 <|
    .p (does_k [2, 3] (ringat_ok x y (0 - (1 + (xs.getD 4 0 % (r - 1)))) r (by omega) (by omega) (by omega) (by omega))) <| .a 2 4 <| .p (does_i (0 - r) (wrap_i64 (by omega) (by omega)) .i64) <| .a 1 4 <|
    .p (does_k [2, 3] (ringat_ok x y (0 - r) (1 + (xs.getD 4 0 % (r - 1))) (by omega) (by omega) (by omega) (by omega))) <| .a 2 4 <| .nil _ _) ?_
  refine aw_r [(2, 4)] [(8, .slice (some ⟨4, 0, none⟩) 8 0)] [(0, ⟨[.slice (some ⟨1, (min 5 xs.length), none⟩) (xs.length - 5) 0], 60, true, 1⟩), (1, ⟨(xs.map i64v), 3, false, 1⟩), (4, ⟨[.int .i64 (x + (0 - r)), .int .i64 (y + (0 - (1 + (xs.getD 4 0 % (r - 1))))), .int .i64 (x + (0 - (1 + (xs.getD 4 0 % (r - 1))))), .int .i64 (y + (0 - r)), .int .i64 (x + (1 + (xs.getD 4 0 % (r - 1)))), .int .i64 (y + (0 - r)), .int .i64 (x + r), .int .i64 (y + (0 - (1 + (xs.getD 4 0 % (r - 1))))), .int .i64 (x + r), .int .i64 (y + (1 + (xs.getD 4 0 % (r - 1)))), .int .i64 (x + (1 + (xs.getD 4 0 % (r - 1)))), .int .i64 (y + r), .int .i64 (x + (0 - (1 + (xs.getD 4 0 % (r - 1))))), .int .i64 (y + r), .int .i64 (x + (0 - r)), .int .i64 (y + (1 + (xs.getD 4 0 % (r - 1))))], 27, true, 2⟩)] [(8, .slice (some ⟨2, 0, none⟩) 8 0)] [(0, ⟨[.slice (some ⟨1, (min 5 xs.length), none⟩) (xs.length - 5) 0], 60, true, 1⟩), (1, ⟨(xs.map i64v), 3, false, 1⟩), (2, ⟨[.int .i64 (x + (0 - r)), .int .i64 (y + (0 - (1 + (xs.getD 4 0 % (r - 1))))), .int .i64 (x + (0 - (1 + (xs.getD 4 0 % (r - 1))))), .int .i64 (y + (0 - r)), .int .i64 (x + (1 + (xs.getD 4 0 % (r - 1)))), .int .i64 (y + (0 - r)), .int .i64 (x + r), .int .i64 (y + (0 - (1 + (xs.getD 4 0 % (r - 1))))), .int .i64 (x + r), .int .i64 (y + (1 + (xs.getD 4 0 % (r - 1)))), .int .i64 (x + (1 + (xs.getD 4 0 % (r - 1)))), .int .i64 (y + r), .int .i64 (x + (0 - (1 + (xs.getD 4 0 % (r - 1))))), .int .i64 (y + r), .int .i64 (x + (0 - r)), .int .i64 (y + (1 + (xs.getD 4 0 % (r - 1))))], 27, true, 2⟩)] ?_ ⟨rfl, (.slice _ _ _ _ _ rfl), trivial⟩ ⟨rfl, ⟨rfl, rfl, rfl, (.cons (.slice _ _ _ _ _ rfl) .nil)⟩, rfl, ⟨rfl, rfl, rfl, (.flats (flats_map (fun _ => rfl) _))⟩, rfl, ⟨rfl, rfl, rfl, (.flats (by kernel_rfl))⟩, trivial⟩
  refine aw_rt ?_
  refine block_ret ?_
  refine then_ret ?_
  exact en_ret [.slice (some ⟨2, 0, none⟩) 8 0] (by kernel_rfl)
theorem mring_0 (xs : List Int) (hs : xs.getD 3 0 % 5 = 0) :
    AC Try.prog 6 1 ([.slice (some ⟨0, 0, none⟩) xs.length 0]) [(0, ⟨(xs.map i64v), 3, false, 1⟩)] (.slice (some ⟨1, 0, none⟩) 4 0) [(1, ⟨[.int .i64 ((xs.getD 0 0 % 40 - 20) + (0 - (4 + xs.getD 2 0 % 16))), .int .i64 ((xs.getD 1 0 % 40 - 20) + (0 - (4 + xs.getD 2 0 % 16))), .int .i64 ((xs.getD 0 0 % 40 - 20) + (4 + xs.getD 2 0 % 16)), .int .i64 ((xs.getD 1 0 % 40 - 20) + (0 - (4 + xs.getD 2 0 % 16))), .int .i64 ((xs.getD 0 0 % 40 - 20) + (4 + xs.getD 2 0 % 16)), .int .i64 ((xs.getD 1 0 % 40 - 20) + (4 + xs.getD 2 0 % 16)), .int .i64 ((xs.getD 0 0 % 40 - 20) + (0 - (4 + xs.getD 2 0 % 16))), .int .i64 ((xs.getD 1 0 % 40 - 20) + (4 + xs.getD 2 0 % 16))], 27, true, 2⟩)] := by
  have g0 := Sp.emod_bd (xs.getD 0 0) (n := 40) (by decide); have g1 := Sp.emod_bd (xs.getD 1 0) (n := 40) (by decide); have g2 := Sp.emod_bd (xs.getD 2 0) (n := 16) (by decide)
  refine ac_in Try.func6 (fun w0 W pin => ?_)
  refine aw_p 3 (
    .a 1 2 <| .nil _ _) ?_
  refine aw_p 7 (
    .a 4 2 <| .nil _ _) ?_
  refine aw_p 15 (
    .a 2 3 <|
    .p (does_callB (x := .func 26) (ars := #[.tmp 8, .const (.int .i64 40)]) (ats := #[58, 3]) (g := 26) (vs := [.pointer (some ⟨2, 0, none⟩), .int .i64 40]) (m := 2) (r := 0) (firsts := #[]) (caps := #[]) (args0 := [.pointer (some ⟨0, 0, none⟩), .int .i64 40]) (pre0 := [(0, ⟨[.slice (some ⟨1, 0, none⟩) xs.length 0], 60, true, 1⟩), (1, ⟨(xs.map i64v), 3, false, 1⟩)]) (post0 := [(0, ⟨[.slice (some ⟨1, (min 1 xs.length), none⟩) (xs.length - 1) 0], 60, true, 1⟩)]) (pre := [(2, ⟨[.slice (some ⟨0, 0, none⟩) xs.length 0], 60, true, 1⟩), (0, ⟨(xs.map i64v), 3, false, 1⟩)]) (post := [(2, ⟨[.slice (some ⟨0, (min 1 xs.length), none⟩) (xs.length - 1) 0], 60, true, 1⟩)]) (v0 := .int .i64 (xs.getD 0 0 % 40)) (v := .int .i64 (xs.getD 0 0 % 40)) [2, 0] (by kernel_rfl) (by kernel_rfl) (by kernel_rfl) (by kernel_rfl) (nextz0 xs 40 (by decide) (by decide)) (.cons (.ptr _ _ (by decide)) (.cons (.flatB (by kernel_rfl)) .nil)) ⟨rfl, ⟨rfl, rfl, rfl, (.cons (.slice _ _ _ _ _ (by decide)) .nil)⟩, rfl, ⟨rfl, rfl, rfl, (.flats (flats_map (fun _ => rfl) _))⟩, trivial⟩ (by kernel_rfl) (by kernel_rfl) (by kernel_rfl) ⟨rfl, ⟨rfl, rfl, rfl, (.cons (.slice _ _ _ _ _ (by decide)) .nil)⟩, trivial⟩ (.flatB (by kernel_rfl))) <|
    .p (does_i ((xs.getD 0 0 % 40) - 20) (wrap_i64 (by omega) (by omega)) .i64) <| .a 1 3 <|
    .p (does_callB (x := .func 26) (ars := #[.tmp 11, .const (.int .i64 40)]) (ats := #[58, 3]) (g := 26) (vs := [.pointer (some ⟨2, 0, none⟩), .int .i64 40]) (m := 2) (r := 0) (firsts := #[]) (caps := #[]) (args0 := [.pointer (some ⟨0, 0, none⟩), .int .i64 40]) (pre0 := [(0, ⟨[.slice (some ⟨1, (min 1 xs.length), none⟩) (xs.length - 1) 0], 60, true, 1⟩), (1, ⟨(xs.map i64v), 3, false, 1⟩)]) (post0 := [(0, ⟨[.slice (some ⟨1, (min 2 xs.length), none⟩) (xs.length - 2) 0], 60, true, 1⟩)]) (pre := [(2, ⟨[.slice (some ⟨0, (min 1 xs.length), none⟩) (xs.length - 1) 0], 60, true, 1⟩), (0, ⟨(xs.map i64v), 3, false, 1⟩)]) (post := [(2, ⟨[.slice (some ⟨0, (min 2 xs.length), none⟩) (xs.length - 2) 0], 60, true, 1⟩)]) (v0 := .int .i64 (xs.getD 1 0 % 40)) (v := .int .i64 (xs.getD 1 0 % 40)) [2, 0] (by kernel_rfl) (by kernel_rfl) (by kernel_rfl) (by kernel_rfl) (nextz xs 1 40 (by decide) (by decide)) (.cons (.ptr _ _ (by decide)) (.cons (.flatB (by kernel_rfl)) .nil)) ⟨rfl, ⟨rfl, rfl, rfl, (.cons (.slice _ _ _ _ _ (by decide)) .nil)⟩, rfl, ⟨rfl, rfl, rfl, (.flats (flats_map (fun _ => rfl) _))⟩, trivial⟩ (by kernel_rfl) (by kernel_rfl) (by kernel_rfl) ⟨rfl, ⟨rfl, rfl, rfl, (.cons (.slice _ _ _ _ _ (by decide)) .nil)⟩, trivial⟩ (.flatB (by kernel_rfl))) <|
    .p (does_i ((xs.getD 1 0 % 40) - 20) (wrap_i64 (by omega) (by omega)) .i64) <| .a 1 3 <|
    .p (does_callB (x := .func 26) (ars := #[.tmp 14, .const (.int .i64 16)]) (ats := #[58, 3]) (g := 26) (vs := [.pointer (some ⟨2, 0, none⟩), .int .i64 16]) (m := 2) (r := 0) (firsts := #[]) (caps := #[]) (args0 := [.pointer (some ⟨0, 0, none⟩), .int .i64 16]) (pre0 := [(0, ⟨[.slice (some ⟨1, (min 2 xs.length), none⟩) (xs.length - 2) 0], 60, true, 1⟩), (1, ⟨(xs.map i64v), 3, false, 1⟩)]) (post0 := [(0, ⟨[.slice (some ⟨1, (min 3 xs.length), none⟩) (xs.length - 3) 0], 60, true, 1⟩)]) (pre := [(2, ⟨[.slice (some ⟨0, (min 2 xs.length), none⟩) (xs.length - 2) 0], 60, true, 1⟩), (0, ⟨(xs.map i64v), 3, false, 1⟩)]) (post := [(2, ⟨[.slice (some ⟨0, (min 3 xs.length), none⟩) (xs.length - 3) 0], 60, true, 1⟩)]) (v0 := .int .i64 (xs.getD 2 0 % 16)) (v := .int .i64 (xs.getD 2 0 % 16)) [2, 0] (by kernel_rfl) (by kernel_rfl) (by kernel_rfl) (by kernel_rfl) (nextz xs 2 16 (by decide) (by decide)) (.cons (.ptr _ _ (by decide)) (.cons (.flatB (by kernel_rfl)) .nil)) ⟨rfl, ⟨rfl, rfl, rfl, (.cons (.slice _ _ _ _ _ (by decide)) .nil)⟩, rfl, ⟨rfl, rfl, rfl, (.flats (flats_map (fun _ => rfl) _))⟩, trivial⟩ (by kernel_rfl) (by kernel_rfl) (by kernel_rfl) ⟨rfl, ⟨rfl, rfl, rfl, (.cons (.slice _ _ _ _ _ (by decide)) .nil)⟩, trivial⟩ (.flatB (by kernel_rfl))) <|
    .p (does_i (4 + (xs.getD 2 0 % 16)) (wrap_i64 (by omega) (by omega)) .i64) <|
    .p (does_callB (x := .func 25) (ars := #[.tmp 7, .tmp 10, .tmp 13, .tmp 16]) (ats := #[58, 3, 3, 3]) (g := 25) (vs := [.pointer (some ⟨2, 0, none⟩), .int .i64 ((xs.getD 0 0 % 40) - 20), .int .i64 ((xs.getD 1 0 % 40) - 20), .int .i64 (4 + (xs.getD 2 0 % 16))]) (m := 2) (r := 1) (firsts := #[]) (caps := #[]) (args0 := [.pointer (some ⟨0, 0, none⟩), .int .i64 ((xs.getD 0 0 % 40) - 20), .int .i64 ((xs.getD 1 0 % 40) - 20), .int .i64 (4 + (xs.getD 2 0 % 16))]) (pre0 := [(0, ⟨[.slice (some ⟨1, (min 3 xs.length), none⟩) (xs.length - 3) 0], 60, true, 1⟩), (1, ⟨(xs.map i64v), 3, false, 1⟩)]) (post0 := [(0, ⟨[.slice (some ⟨1, (min 4 xs.length), none⟩) (xs.length - 4) 0], 60, true, 1⟩), (2, ⟨[.int .i64 (((xs.getD 0 0 % 40) - 20) + (0 - (4 + (xs.getD 2 0 % 16)))), .int .i64 (((xs.getD 1 0 % 40) - 20) + (0 - (4 + (xs.getD 2 0 % 16)))), .int .i64 (((xs.getD 0 0 % 40) - 20) + (4 + (xs.getD 2 0 % 16))), .int .i64 (((xs.getD 1 0 % 40) - 20) + (0 - (4 + (xs.getD 2 0 % 16)))), .int .i64 (((xs.getD 0 0 % 40) - 20) + (4 + (xs.getD 2 0 % 16))), .int .i64 (((xs.getD 1 0 % 40) - 20) + (4 + (xs.getD 2 0 % 16))), .int .i64 (((xs.getD 0 0 % 40) - 20) + (0 - (4 + (xs.getD 2 0 % 16)))), .int .i64 (((xs.getD 1 0 % 40) - 20) + (4 + (xs.getD 2 0 % 16)))], 27, true, 2⟩)]) (pre := [(2, ⟨[.slice (some ⟨0, (min 3 xs.length), none⟩) (xs.length - 3) 0], 60, true, 1⟩), (0, ⟨(xs.map i64v), 3, false, 1⟩)]) (post := [(2, ⟨[.slice (some ⟨0, (min 4 xs.length), none⟩) (xs.length - 4) 0], 60, true, 1⟩), (1, ⟨[.int .i64 (((xs.getD 0 0 % 40) - 20) + (0 - (4 + (xs.getD 2 0 % 16)))), .int .i64 (((xs.getD 1 0 % 40) - 20) + (0 - (4 + (xs.getD 2 0 % 16)))), .int .i64 (((xs.getD 0 0 % 40) - 20) + (4 + (xs.getD 2 0 % 16))), .int .i64 (((xs.getD 1 0 % 40) - 20) + (0 - (4 + (xs.getD 2 0 % 16)))), .int .i64 (((xs.getD 0 0 % 40) - 20) + (4 + (xs.getD 2 0 % 16))), .int .i64 (((xs.getD 1 0 % 40) - 20) + (4 + (xs.getD 2 0 % 16))), .int .i64 (((xs.getD 0 0 % 40) - 20) + (0 - (4 + (xs.getD 2 0 % 16)))), .int .i64 (((xs.getD 1 0 % 40) - 20) + (4 + (xs.getD 2 0 % 16)))], 27, true, 2⟩)]) (v0 := .slice (some ⟨2, 0, none⟩) 4 0) (v := .slice (some ⟨1, 0, none⟩) 4 0) [2, 0, 1] (by kernel_rfl) (by kernel_rfl) (by kernel_rfl) (by kernel_rfl) (ring_0 xs ((xs.getD 0 0 % 40) - 20) ((xs.getD 1 0 % 40) - 20) (4 + (xs.getD 2 0 % 16)) (by omega) (by omega) (by omega) (by omega) (by omega) (by omega) hs) (.cons (.ptr _ _ (by decide)) (.cons (.flatB (by kernel_rfl)) (.cons (.flatB (by kernel_rfl)) (.cons (.flatB (by kernel_rfl)) .nil)))) ⟨rfl, ⟨rfl, rfl, rfl, (.cons (.slice _ _ _ _ _ (by decide)) .nil)⟩, rfl, ⟨rfl, rfl, rfl, (.flats (flats_map (fun _ => rfl) _))⟩, trivial⟩ (by kernel_rfl) (by kernel_rfl) (by kernel_rfl) ⟨rfl, ⟨rfl, rfl, rfl, (.cons (.slice _ _ _ _ _ (by decide)) .nil)⟩, rfl, ⟨rfl, rfl, rfl, (.flats (by kernel_rfl))⟩, trivial⟩ (.slice _ _ _ _ _ (by decide))) <|
    .a 1 3 <| .nil _ _) ?_
  refine aw_rt ?_
  exact en_ret [.slice (some ⟨1, 0, none⟩) 4 0] (by kernel_rfl)
theorem mring_1 (xs : List Int) (hs : xs.getD 3 0 % 5 = 1) :
    AC Try.prog 6 1 ([.slice (some ⟨0, 0, none⟩) xs.length 0]) [(0, ⟨(xs.map i64v), 3, false, 1⟩)] (.slice (some ⟨1, 0, none⟩) 3 0) [(1, ⟨[.int .i64 ((xs.getD 0 0 % 40 - 20) + (0 - (4 + xs.getD 2 0 % 16))), .int .i64 ((xs.getD 1 0 % 40 - 20) + (0 - (4 + xs.getD 2 0 % 16))), .int .i64 ((xs.getD 0 0 % 40 - 20) + (4 + xs.getD 2 0 % 16)), .int .i64 ((xs.getD 1 0 % 40 - 20) + (xs.getD 4 0 % (2 * (4 + xs.getD 2 0 % 16)) - (4 + xs.getD 2 0 % 16))), .int .i64 ((xs.getD 0 0 % 40 - 20) + (xs.getD 5 0 % (2 * (4 + xs.getD 2 0 % 16)) - (4 + xs.getD 2 0 % 16))), .int .i64 ((xs.getD 1 0 % 40 - 20) + (4 + xs.getD 2 0 % 16))], 27, true, 2⟩)] := by
  have g0 := Sp.emod_bd (xs.getD 0 0) (n := 40) (by decide); have g1 := Sp.emod_bd (xs.getD 1 0) (n := 40) (by decide); have g2 := Sp.emod_bd (xs.getD 2 0) (n := 16) (by decide)
  refine ac_in Try.func6 (fun w0 W pin => ?_)
  refine aw_p 3 (
    .a 1 2 <| .nil _ _) ?_
  refine aw_p 7 (
    .a 4 2 <| .nil _ _) ?_
  refine aw_p 15 (
    .a 2 3 <|
    .p (does_callB (x := .func 26) (ars := #[.tmp 8, .const (.int .i64 40)]) (ats := #[58, 3]) (g := 26) (vs := [.pointer (some ⟨2, 0, none⟩), .int .i64 40]) (m := 2) (r := 0) (firsts := #[]) (caps := #[]) (args0 := [.pointer (some ⟨0, 0, none⟩), .int .i64 40]) (pre0 := [(0, ⟨[.slice (some ⟨1, 0, none⟩) xs.length 0], 60, true, 1⟩), (1, ⟨(xs.map i64v), 3, false, 1⟩)]) (post0 := [(0, ⟨[.slice (some ⟨1, (min 1 xs.length), none⟩) (xs.length - 1) 0], 60, true, 1⟩)]) (pre := [(2, ⟨[.slice (some ⟨0, 0, none⟩) xs.length 0], 60, true, 1⟩), (0, ⟨(xs.map i64v), 3, false, 1⟩)]) (post := [(2, ⟨[.slice (some ⟨0, (min 1 xs.length), none⟩) (xs.length - 1) 0], 60, true, 1⟩)]) (v0 := .int .i64 (xs.getD 0 0 % 40)) (v := .int .i64 (xs.getD 0 0 % 40)) [2, 0] (by kernel_rfl) (by kernel_rfl) (by kernel_rfl) (by kernel_rfl) (nextz0 xs 40 (by decide) (by decide)) (.cons (.ptr _ _ (by decide)) (.cons (.flatB (by kernel_rfl)) .nil)) ⟨rfl, ⟨rfl, rfl, rfl, (.cons (.slice _ _ _ _ _ (by decide)) .nil)⟩, rfl, ⟨rfl, rfl, rfl, (.flats (flats_map (fun _ => rfl) _))⟩, trivial⟩ (by kernel_rfl) (by kernel_rfl) (by kernel_rfl) ⟨rfl, ⟨rfl, rfl, rfl, (.cons (.slice _ _ _ _ _ (by decide)) .nil)⟩, trivial⟩ (.flatB (by kernel_rfl))) <|
    .p (does_i ((xs.getD 0 0 % 40) - 20) (wrap_i64 (by omega) (by omega)) .i64) <| .a 1 3 <|
    .p (does_callB (x := .func 26) (ars := #[.tmp 11, .const (.int .i64 40)]) (ats := #[58, 3]) (g := 26) (vs := [.pointer (some ⟨2, 0, none⟩), .int .i64 40]) (m := 2) (r := 0) (firsts := #[]) (caps := #[]) (args0 := [.pointer (some ⟨0, 0, none⟩), .int .i64 40]) (pre0 := [(0, ⟨[.slice (some ⟨1, (min 1 xs.length), none⟩) (xs.length - 1) 0], 60, true, 1⟩), (1, ⟨(xs.map i64v), 3, false, 1⟩)]) (post0 := [(0, ⟨[.slice (some ⟨1, (min 2 xs.length), none⟩) (xs.length - 2) 0], 60, true, 1⟩)]) (pre := [(2, ⟨[.slice (some ⟨0, (min 1 xs.length), none⟩) (xs.length - 1) 0], 60, true, 1⟩), (0, ⟨(xs.map i64v), 3, false, 1⟩)]) (post := [(2, ⟨[.slice (some ⟨0, (min 2 xs.length), none⟩) (xs.length - 2) 0], 60, true, 1⟩)]) (v0 := .int .i64 (xs.getD 1 0 % 40)) (v := .int .i64 (xs.getD 1 0 % 40)) [2, 0] (by kernel_rfl) (by kernel_rfl) (by kernel_rfl) (by kernel_rfl) (nextz xs 1 40 (by decide) (by decide)) (.cons (.ptr _ _ (by decide)) (.cons (.flatB (by kernel_rfl)) .nil)) ⟨rfl, ⟨rfl, rfl, rfl, (.cons (.slice _ _ _ _ _ (by decide)) .nil)⟩, rfl, ⟨rfl, rfl, rfl, (.flats (flats_map (fun _ => rfl) _))⟩, trivial⟩ (by kernel_rfl) (by kernel_rfl) (by kernel_rfl) ⟨rfl, ⟨rfl, rfl, rfl, (.cons (.slice _ _ _ _ _ (by decide)) .nil)⟩, trivial⟩ (.flatB (by kernel_rfl))) <|
    .p (does_i ((xs.getD 1 0 % 40) - 20) (wrap_i64 (by omega) (by omega)) .i64) <| .a 1 3 <|
    .p (does_callB (x := .func 26) (ars := #[.tmp 14, .const (.int .i64 16)]) (ats := #[58, 3]) (g := 26) (vs := [.pointer (some ⟨2, 0, none⟩), .int .i64 16]) (m := 2) (r := 0) (firsts := #[]) (caps := #[]) (args0 := [.pointer (some ⟨0, 0, none⟩), .int .i64 16]) (pre0 := [(0, ⟨[.slice (some ⟨1, (min 2 xs.length), none⟩) (xs.length - 2) 0], 60, true, 1⟩), (1, ⟨(xs.map i64v), 3, false, 1⟩)]) (post0 := [(0, ⟨[.slice (some ⟨1, (min 3 xs.length), none⟩) (xs.length - 3) 0], 60, true, 1⟩)]) (pre := [(2, ⟨[.slice (some ⟨0, (min 2 xs.length), none⟩) (xs.length - 2) 0], 60, true, 1⟩), (0, ⟨(xs.map i64v), 3, false, 1⟩)]) (post := [(2, ⟨[.slice (some ⟨0, (min 3 xs.length), none⟩) (xs.length - 3) 0], 60, true, 1⟩)]) (v0 := .int .i64 (xs.getD 2 0 % 16)) (v := .int .i64 (xs.getD 2 0 % 16)) [2, 0] (by kernel_rfl) (by kernel_rfl) (by kernel_rfl) (by kernel_rfl) (nextz xs 2 16 (by decide) (by decide)) (.cons (.ptr _ _ (by decide)) (.cons (.flatB (by kernel_rfl)) .nil)) ⟨rfl, ⟨rfl, rfl, rfl, (.cons (.slice _ _ _ _ _ (by decide)) .nil)⟩, rfl, ⟨rfl, rfl, rfl, (.flats (flats_map (fun _ => rfl) _))⟩, trivial⟩ (by kernel_rfl) (by kernel_rfl) (by kernel_rfl) ⟨rfl, ⟨rfl, rfl, rfl, (.cons (.slice _ _ _ _ _ (by decide)) .nil)⟩, trivial⟩ (.flatB (by kernel_rfl))) <|
    .p (does_i (4 + (xs.getD 2 0 % 16)) (wrap_i64 (by omega) (by omega)) .i64) <|
    .p (does_callB (x := .func 25) (ars := #[.tmp 7, .tmp 10, .tmp 13, .tmp 16]) (ats := #[58, 3, 3, 3]) (g := 25) (vs := [.pointer (some ⟨2, 0, none⟩), .int .i64 ((xs.getD 0 0 % 40) - 20), .int .i64 ((xs.getD 1 0 % 40) - 20), .int .i64 (4 + (xs.getD 2 0 % 16))]) (m := 2) (r := 1) (firsts := #[]) (caps := #[]) (args0 := [.pointer (some ⟨0, 0, none⟩), .int .i64 ((xs.getD 0 0 % 40) - 20), .int .i64 ((xs.getD 1 0 % 40) - 20), .int .i64 (4 + (xs.getD 2 0 % 16))]) (pre0 := [(0, ⟨[.slice (some ⟨1, (min 3 xs.length), none⟩) (xs.length - 3) 0], 60, true, 1⟩), (1, ⟨(xs.map i64v), 3, false, 1⟩)]) (post0 := [(0, ⟨[.slice (some ⟨1, (min 6 xs.length), none⟩) (xs.length - 6) 0], 60, true, 1⟩), (2, ⟨[.int .i64 (((xs.getD 0 0 % 40) - 20) + (0 - (4 + (xs.getD 2 0 % 16)))), .int .i64 (((xs.getD 1 0 % 40) - 20) + (0 - (4 + (xs.getD 2 0 % 16)))), .int .i64 (((xs.getD 0 0 % 40) - 20) + (4 + (xs.getD 2 0 % 16))), .int .i64 (((xs.getD 1 0 % 40) - 20) + (xs.getD 4 0 % (2 * (4 + (xs.getD 2 0 % 16))) - (4 + (xs.getD 2 0 % 16)))), .int .i64 (((xs.getD 0 0 % 40) - 20) + (xs.getD 5 0 % (2 * (4 + (xs.getD 2 0 % 16))) - (4 + (xs.getD 2 0 % 16)))), .int .i64 (((xs.getD 1 0 % 40) - 20) + (4 + (xs.getD 2 0 % 16)))], 27, true, 2⟩)]) (pre := [(2, ⟨[.slice (some ⟨0, (min 3 xs.length), none⟩) (xs.length - 3) 0], 60, true, 1⟩), (0, ⟨(xs.map i64v), 3, false, 1⟩)]) (post := [(2, ⟨[.slice (some ⟨0, (min 6 xs.length), none⟩) (xs.length - 6) 0], 60, true, 1⟩), (1, ⟨[.int .i64 (((xs.getD 0 0 % 40) - 20) + (0 - (4 + (xs.getD 2 0 % 16)))), .int .i64 (((xs.getD 1 0 % 40) - 20) + (0 - (4 + (xs.getD 2 0 % 16)))), .int .i64 (((xs.getD 0 0 % 40) - 20) + (4 + (xs.getD 2 0 % 16))), .int .i64 (((xs.getD 1 0 % 40) - 20) + (xs.getD 4 0 % (2 * (4 + (xs.getD 2 0 % 16))) - (4 + (xs.getD 2 0 % 16)))), .int .i64 (((xs.getD 0 0 % 40) - 20) + (xs.getD 5 0 % (2 * (4 + (xs.getD 2 0 % 16))) - (4 + (xs.getD 2 0 % 16)))), .int .i64 (((xs.getD 1 0 % 40) - 20) + (4 + (xs.getD 2 0 % 16)))], 27, true, 2⟩)]) (v0 := .slice (some ⟨2, 0, none⟩) 3 0) (v := .slice (some ⟨1, 0, none⟩) 3 0) [2, 0, 1] (by kernel_rfl) (by kernel_rfl) (by kernel_rfl) (by kernel_rfl) (ring_1 xs ((xs.getD 0 0 % 40) - 20) ((xs.getD 1 0 % 40) - 20) (4 + (xs.getD 2 0 % 16)) (by omega) (by omega) (by omega) (by omega) (by omega) (by omega) hs) (.cons (.ptr _ _ (by decide)) (.cons (.flatB (by kernel_rfl)) (.cons (.flatB (by kernel_rfl)) (.cons (.flatB (by kernel_rfl)) .nil)))) ⟨rfl, ⟨rfl, rfl, rfl, (.cons (.slice _ _ _ _ _ (by decide)) .nil)⟩, rfl, ⟨rfl, rfl, rfl, (.flats (flats_map (fun _ => rfl) _))⟩, trivial⟩ (by kernel_rfl) (by kernel_rfl) (by kernel_rfl) ⟨rfl, ⟨rfl, rfl, rfl, (.cons (.slice _ _ _ _ _ (by decide)) .nil)⟩, rfl, ⟨rfl, rfl, rfl, (.flats (by kernel_rfl))⟩, trivial⟩ (.slice _ _ _ _ _ (by decide))) <|
    .a 1 3 <| .nil _ _) ?_
  refine aw_rt ?_
  exact en_ret [.slice (some ⟨1, 0, none⟩) 3 0] (by kernel_rfl)
theorem mring_2 (xs : List Int) (hs : xs.getD 3 0 % 5 = 2) :
    AC Try.prog 6 1 ([.slice (some ⟨0, 0, none⟩) xs.length 0]) [(0, ⟨(xs.map i64v), 3, false, 1⟩)] (.slice (some ⟨1, 0, none⟩) 6 0) [(1, ⟨[.int .i64 ((xs.getD 0 0 % 40 - 20) + (0 - (4 + xs.getD 2 0 % 16))), .int .i64 ((xs.getD 1 0 % 40 - 20) + (0 - (4 + xs.getD 2 0 % 16))), .int .i64 ((xs.getD 0 0 % 40 - 20) + (4 + xs.getD 2 0 % 16)), .int .i64 ((xs.getD 1 0 % 40 - 20) + (0 - (4 + xs.getD 2 0 % 16))), .int .i64 ((xs.getD 0 0 % 40 - 20) + (4 + xs.getD 2 0 % 16)), .int .i64 ((xs.getD 1 0 % 40 - 20) + (0 - xs.getD 5 0 % (4 + xs.getD 2 0 % 16))), .int .i64 ((xs.getD 0 0 % 40 - 20) + (0 - xs.getD 4 0 % (4 + xs.getD 2 0 % 16))), .int .i64 ((xs.getD 1 0 % 40 - 20) + (0 - xs.getD 5 0 % (4 + xs.getD 2 0 % 16))), .int .i64 ((xs.getD 0 0 % 40 - 20) + (0 - xs.getD 4 0 % (4 + xs.getD 2 0 % 16))), .int .i64 ((xs.getD 1 0 % 40 - 20) + (4 + xs.getD 2 0 % 16)), .int .i64 ((xs.getD 0 0 % 40 - 20) + (0 - (4 + xs.getD 2 0 % 16))), .int .i64 ((xs.getD 1 0 % 40 - 20) + (4 + xs.getD 2 0 % 16))], 27, true, 2⟩)] := by
  have g0 := Sp.emod_bd (xs.getD 0 0) (n := 40) (by decide); have g1 := Sp.emod_bd (xs.getD 1 0) (n := 40) (by decide); have g2 := Sp.emod_bd (xs.getD 2 0) (n := 16) (by decide)
  refine ac_in Try.func6 (fun w0 W pin => ?_)
  refine aw_p 3 (
    .a 1 2 <| .nil _ _) ?_
  refine aw_p 7 (
    .a 4 2 <| .nil _ _) ?_
  refine aw_p 15 (
    .a 2 3 <|
    .p (does_callB (x := .func 26) (ars := #[.tmp 8, .const (.int .i64 40)]) (ats := #[58, 3]) (g := 26) (vs := [.pointer (some ⟨2, 0, none⟩), .int .i64 40]) (m := 2) (r := 0) (firsts := #[]) (caps := #[]) (args0 := [.pointer (some ⟨0, 0, none⟩), .int .i64 40]) (pre0 := [(0, ⟨[.slice (some ⟨1, 0, none⟩) xs.length 0], 60, true, 1⟩), (1, ⟨(xs.map i64v), 3, false, 1⟩)]) (post0 := [(0, ⟨[.slice (some ⟨1, (min 1 xs.length), none⟩) (xs.length - 1) 0], 60, true, 1⟩)]) (pre := [(2, ⟨[.slice (some ⟨0, 0, none⟩) xs.length 0], 60, true, 1⟩), (0, ⟨(xs.map i64v), 3, false, 1⟩)]) (post := [(2, ⟨[.slice (some ⟨0, (min 1 xs.length), none⟩) (xs.length - 1) 0], 60, true, 1⟩)]) (v0 := .int .i64 (xs.getD 0 0 % 40)) (v := .int .i64 (xs.getD 0 0 % 40)) [2, 0] (by kernel_rfl) (by kernel_rfl) (by kernel_rfl) (by kernel_rfl) (nextz0 xs 40 (by decide) (by decide)) (.cons (.ptr _ _ (by decide)) (.cons (.flatB (by kernel_rfl)) .nil)) ⟨rfl, ⟨rfl, rfl, rfl, (.cons (.slice _ _ _ _ _ (by decide)) .nil)⟩, rfl, ⟨rfl, rfl, rfl, (.flats (flats_map (fun _ => rfl) _))⟩, trivial⟩ (by kernel_rfl) (by kernel_rfl) (by kernel_rfl) ⟨rfl, ⟨rfl, rfl, rfl, (.cons (.slice _ _ _ _ _ (by decide)) .nil)⟩, trivial⟩ (.flatB (by kernel_rfl))) <|
    .p (does_i ((xs.getD 0 0 % 40) - 20) (wrap_i64 (by omega) (by omega)) .i64) <| .a 1 3 <|
    .p (does_callB (x := .func 26) (ars := #[.tmp 11, .const (.int .i64 40)]) (ats := #[58, 3]) (g := 26) (vs := [.pointer (some ⟨2, 0, none⟩), .int .i64 40]) (m := 2) (r := 0) (firsts := #[]) (caps := #[]) (args0 := [.pointer (some ⟨0, 0, none⟩), .int .i64 40]) (pre0 := [(0, ⟨[.slice (some ⟨1, (min 1 xs.length), none⟩) (xs.length - 1) 0], 60, true, 1⟩), (1, ⟨(xs.map i64v), 3, false, 1⟩)]) (post0 := [(0, ⟨[.slice (some ⟨1, (min 2 xs.length), none⟩) (xs.length - 2) 0], 60, true, 1⟩)]) (pre := [(2, ⟨[.slice (some ⟨0, (min 1 xs.length), none⟩) (xs.length - 1) 0], 60, true, 1⟩), (0, ⟨(xs.map i64v), 3, false, 1⟩)]) (post := [(2, ⟨[.slice (some ⟨0, (min 2 xs.length), none⟩) (xs.length - 2) 0], 60, true, 1⟩)]) (v0 := .int .i64 (xs.getD 1 0 % 40)) (v := .int .i64 (xs.getD 1 0 % 40)) [2, 0] (by kernel_rfl) (by kernel_rfl) (by kernel_rfl) (by kernel_rfl) (nextz xs 1 40 (by decide) (by decide)) (.cons (.ptr _ _ (by decide)) (.cons (.flatB (by kernel_rfl)) .nil)) ⟨rfl, ⟨rfl, rfl, rfl, (.cons (.slice _ _ _ _ _ (by decide)) .nil)⟩, rfl, ⟨rfl, rfl, rfl, (.flats (flats_map (fun _ => rfl) _))⟩, trivial⟩ (by kernel_rfl) (by kernel_rfl) (by kernel_rfl) ⟨rfl, ⟨rfl, rfl, rfl, (.cons (.slice _ _ _ _ _ (by decide)) .nil)⟩, trivial⟩ (.flatB (by kernel_rfl))) <|
    .p (does_i ((xs.getD 1 0 % 40) - 20) (wrap_i64 (by omega) (by omega)) .i64) <| .a 1 3 <|
    .p (does_callB (x := .func 26) (ars := #[.tmp 14, .const (.int .i64 16)]) (ats := #[58, 3]) (g := 26) (vs := [.pointer (some ⟨2, 0, none⟩), .int .i64 16]) (m := 2) (r := 0) (firsts := #[]) (caps := #[]) (args0 := [.pointer (some ⟨0, 0, none⟩), .int .i64 16]) (pre0 := [(0, ⟨[.slice (some ⟨1, (min 2 xs.length), none⟩) (xs.length - 2) 0], 60, true, 1⟩), (1, ⟨(xs.map i64v), 3, false, 1⟩)]) (post0 := [(0, ⟨[.slice (some ⟨1, (min 3 xs.length), none⟩) (xs.length - 3) 0], 60, true, 1⟩)]) (pre := [(2, ⟨[.slice (some ⟨0, (min 2 xs.length), none⟩) (xs.length - 2) 0], 60, true, 1⟩), (0, ⟨(xs.map i64v), 3, false, 1⟩)]) (post := [(2, ⟨[.slice (some ⟨0, (min 3 xs.length), none⟩) (xs.length - 3) 0], 60, true, 1⟩)]) (v0 := .int .i64 (xs.getD 2 0 % 16)) (v := .int .i64 (xs.getD 2 0 % 16)) [2, 0] (by kernel_rfl) (by kernel_rfl) (by kernel_rfl) (by kernel_rfl) (nextz xs 2 16 (by decide) (by decide)) (.cons (.ptr _ _ (by decide)) (.cons (.flatB (by kernel_rfl)) .nil)) ⟨rfl, ⟨rfl, rfl, rfl, (.cons (.slice _ _ _ _ _ (by decide)) .nil)⟩, rfl, ⟨rfl, rfl, rfl, (.flats (flats_map (fun _ => rfl) _))⟩, trivial⟩ (by kernel_rfl) (by kernel_rfl) (by kernel_rfl) ⟨rfl, ⟨rfl, rfl, rfl, (.cons (.slice _ _ _ _ _ (by decide)) .nil)⟩, trivial⟩ (.flatB (by kernel_rfl))) <|
    .p (does_i (4 + (xs.getD 2 0 % 16)) (wrap_i64 (by omega) (by omega)) .i64) <|
    .p (does_callB (x := .func 25) (ars := #[.tmp 7, .tmp 10, .tmp 13, .tmp 16]) (ats := #[58, 3, 3, 3]) (g := 25) (vs := [.pointer (some ⟨2, 0, none⟩), .int .i64 ((xs.getD 0 0 % 40) - 20), .int .i64 ((xs.getD 1 0 % 40) - 20), .int .i64 (4 + (xs.getD 2 0 % 16))]) (m := 2) (r := 1) (firsts := #[]) (caps := #[]) (args0 := [.pointer (some ⟨0, 0, none⟩), .int .i64 ((xs.getD 0 0 % 40) - 20), .int .i64 ((xs.getD 1 0 % 40) - 20), .int .i64 (4 + (xs.getD 2 0 % 16))]) (pre0 := [(0, ⟨[.slice (some ⟨1, (min 3 xs.length), none⟩) (xs.length - 3) 0], 60, true, 1⟩), (1, ⟨(xs.map i64v), 3, false, 1⟩)]) (post0 := [(0, ⟨[.slice (some ⟨1, (min 6 xs.length), none⟩) (xs.length - 6) 0], 60, true, 1⟩), (2, ⟨[.int .i64 (((xs.getD 0 0 % 40) - 20) + (0 - (4 + (xs.getD 2 0 % 16)))), .int .i64 (((xs.getD 1 0 % 40) - 20) + (0 - (4 + (xs.getD 2 0 % 16)))), .int .i64 (((xs.getD 0 0 % 40) - 20) + (4 + (xs.getD 2 0 % 16))), .int .i64 (((xs.getD 1 0 % 40) - 20) + (0 - (4 + (xs.getD 2 0 % 16)))), .int .i64 (((xs.getD 0 0 % 40) - 20) + (4 + (xs.getD 2 0 % 16))), .int .i64 (((xs.getD 1 0 % 40) - 20) + (0 - xs.getD 5 0 % (4 + (xs.getD 2 0 % 16)))), .int .i64 (((xs.getD 0 0 % 40) - 20) + (0 - xs.getD 4 0 % (4 + (xs.getD 2 0 % 16)))), .int .i64 (((xs.getD 1 0 % 40) - 20) + (0 - xs.getD 5 0 % (4 + (xs.getD 2 0 % 16)))), .int .i64 (((xs.getD 0 0 % 40) - 20) + (0 - xs.getD 4 0 % (4 + (xs.getD 2 0 % 16)))), .int .i64 (((xs.getD 1 0 % 40) - 20) + (4 + (xs.getD 2 0 % 16))), .int .i64 (((xs.getD 0 0 % 40) - 20) + (0 - (4 + (xs.getD 2 0 % 16)))), .int .i64 (((xs.getD 1 0 % 40) - 20) + (4 + (xs.getD 2 0 % 16)))], 27, true, 2⟩)]) (pre := [(2, ⟨[.slice (some ⟨0, (min 3 xs.length), none⟩) (xs.length - 3) 0], 60, true, 1⟩), (0, ⟨(xs.map i64v), 3, false, 1⟩)]) (post := [(2, ⟨[.slice (some ⟨0, (min 6 xs.length), none⟩) (xs.length - 6) 0], 60, true, 1⟩), (1, ⟨[.int .i64 (((xs.getD 0 0 % 40) - 20) + (0 - (4 + (xs.getD 2 0 % 16)))), .int .i64 (((xs.getD 1 0 % 40) - 20) + (0 - (4 + (xs.getD 2 0 % 16)))), .int .i64 (((xs.getD 0 0 % 40) - 20) + (4 + (xs.getD 2 0 % 16))), .int .i64 (((xs.getD 1 0 % 40) - 20) + (0 - (4 + (xs.getD 2 0 % 16)))), .int .i64 (((xs.getD 0 0 % 40) - 20) + (4 + (xs.getD 2 0 % 16))), .int .i64 (((xs.getD 1 0 % 40) - 20) + (0 - xs.getD 5 0 % (4 + (xs.getD 2 0 % 16)))), .int .i64 (((xs.getD 0 0 % 40) - 20) + (0 - xs.getD 4 0 % (4 + (xs.getD 2 0 % 16)))), .int .i64 (((xs.getD 1 0 % 40) - 20) + (0 - xs.getD 5 0 % (4 + (xs.getD 2 0 % 16)))), .int .i64 (((xs.getD 0 0 % 40) - 20) + (0 - xs.getD 4 0 % (4 + (xs.getD 2 0 % 16)))), .int .i64 (((xs.getD 1 0 % 40) - 20) + (4 + (xs.getD 2 0 % 16))), .int .i64 (((xs.getD 0 0 % 40) - 20) + (0 - (4 + (xs.getD 2 0 % 16)))), .int .i64 (((xs.getD 1 0 % 40) - 20) + (4 + (xs.getD 2 0 % 16)))], 27, true, 2⟩)]) (v0 := .slice (some ⟨2, 0, none⟩) 6 0) (v := .slice (some ⟨1, 0, none⟩) 6 0) [2, 0, 1] (by kernel_rfl) (by kernel_rfl) (by kernel_rfl) (by kernel_rfl) (ring_2 xs ((xs.getD 0 0 % 40) - 20) ((xs.getD 1 0 % 40) - 20) (4 + (xs.getD 2 0 % 16)) (by omega) (by omega) (by omega) (by omega) (by omega) (by omega) hs) (.cons (.ptr _ _ (by decide)) (.cons (.flatB (by kernel_rfl)) (.cons (.flatB (by kernel_rfl)) (.cons (.flatB (by kernel_rfl)) .nil)))) ⟨rfl, ⟨rfl, rfl, rfl, (.cons (.slice _ _ _ _ _ (by decide)) .nil)⟩, rfl, ⟨rfl, rfl, rfl, (.flats (flats_map (fun _ => rfl) _))⟩, trivial⟩ (by kernel_rfl) (by kernel_rfl) (by kernel_rfl) ⟨rfl, ⟨rfl, rfl, rfl, (.cons (.slice _ _ _ _ _ (by decide)) .nil)⟩, rfl, ⟨rfl, rfl, rfl, (.flats (by kernel_rfl))⟩, trivial⟩ (.slice _ _ _ _ _ (by decide))) <|
    .a 1 3 <| .nil _ _) ?_
  refine aw_rt ?_
  exact en_ret [.slice (some ⟨1, 0, none⟩) 6 0] (by kernel_rfl)
theorem mring_3 (xs : List Int) (hs : xs.getD 3 0 % 5 = 3) :
    AC Try.prog 6 1 ([.slice (some ⟨0, 0, none⟩) xs.length 0]) [(0, ⟨(xs.map i64v), 3, false, 1⟩)] (.slice (some ⟨1, 0, none⟩) 4 0) [(1, ⟨[.int .i64 ((xs.getD 0 0 % 40 - 20) + (0 - (4 + xs.getD 2 0 % 16))), .int .i64 ((xs.getD 1 0 % 40 - 20) + (0 - (4 + xs.getD 2 0 % 16))), .int .i64 ((xs.getD 0 0 % 40 - 20) + 0), .int .i64 ((xs.getD 1 0 % 40 - 20) + (-1 - xs.getD 4 0 % ((4 + xs.getD 2 0 % 16) - 1))), .int .i64 ((xs.getD 0 0 % 40 - 20) + (4 + xs.getD 2 0 % 16)), .int .i64 ((xs.getD 1 0 % 40 - 20) + (0 - (4 + xs.getD 2 0 % 16))), .int .i64 ((xs.getD 0 0 % 40 - 20) + 0), .int .i64 ((xs.getD 1 0 % 40 - 20) + (4 + xs.getD 2 0 % 16))], 27, true, 2⟩)] := by
  have g0 := Sp.emod_bd (xs.getD 0 0) (n := 40) (by decide); have g1 := Sp.emod_bd (xs.getD 1 0) (n := 40) (by decide); have g2 := Sp.emod_bd (xs.getD 2 0) (n := 16) (by decide)
  refine ac_in Try.func6 (fun w0 W pin => ?_)
  refine aw_p 3 (
    .a 1 2 <| .nil _ _) ?_
  refine aw_p 7 (
    .a 4 2 <| .nil _ _) ?_
  refine aw_p 15 (
    .a 2 3 <|
    .p (does_callB (x := .func 26) (ars := #[.tmp 8, .const (.int .i64 40)]) (ats := #[58, 3]) (g := 26) (vs := [.pointer (some ⟨2, 0, none⟩), .int .i64 40]) (m := 2) (r := 0) (firsts := #[]) (caps := #[]) (args0 := [.pointer (some ⟨0, 0, none⟩), .int .i64 40]) (pre0 := [(0, ⟨[.slice (some ⟨1, 0, none⟩) xs.length 0], 60, true, 1⟩), (1, ⟨(xs.map i64v), 3, false, 1⟩)]) (post0 := [(0, ⟨[.slice (some ⟨1, (min 1 xs.length), none⟩) (xs.length - 1) 0], 60, true, 1⟩)]) (pre := [(2, ⟨[.slice (some ⟨0, 0, none⟩) xs.length 0], 60, true, 1⟩), (0, ⟨(xs.map i64v), 3, false, 1⟩)]) (post := [(2, ⟨[.slice (some ⟨0, (min 1 xs.length), none⟩) (xs.length - 1) 0], 60, true, 1⟩)]) (v0 := .int .i64 (xs.getD 0 0 % 40)) (v := .int .i64 (xs.getD 0 0 % 40)) [2, 0] (by kernel_rfl) (by kernel_rfl) (by kernel_rfl) (by kernel_rfl) (nextz0 xs 40 (by decide) (by decide)) (.cons (.ptr _ _ (by decide)) (.cons (.flatB (by kernel_rfl)) .nil)) ⟨rfl, ⟨rfl, rfl, rfl, (.cons (.slice _ _ _ _ _ (by decide)) .nil)⟩, rfl, ⟨rfl, rfl, rfl, (.flats (flats_map (fun _ => rfl) _))⟩, trivial⟩ (by kernel_rfl) (by kernel_rfl) (by kernel_rfl) ⟨rfl, ⟨rfl, rfl, rfl, (.cons (.slice _ _ _ _ _ (by decide)) .nil)⟩, trivial⟩ (.flatB (by kernel_rfl))) <|
    .p (does_i ((xs.getD 0 0 % 40) - 20) (wrap_i64 (by omega) (by omega)) .i64) <| .a 1 3 <|
    .p (does_callB (x := .func 26) (ars := #[.tmp 11, .const (.int .i64 40)]) (ats := #[58, 3]) (g := 26) (vs := [.pointer (some ⟨2, 0, none⟩), .int .i64 40]) (m := 2) (r := 0) (firsts := #[]) (caps := #[]) (args0 := [.pointer (some ⟨0, 0, none⟩), .int .i64 40]) (pre0 := [(0, ⟨[.slice (some ⟨1, (min 1 xs.length), none⟩) (xs.length - 1) 0], 60, true, 1⟩), (1, ⟨(xs.map i64v), 3, false, 1⟩)]) (post0 := [(0, ⟨[.slice (some ⟨1, (min 2 xs.length), none⟩) (xs.length - 2) 0], 60, true, 1⟩)]) (pre := [(2, ⟨[.slice (some ⟨0, (min 1 xs.length), none⟩) (xs.length - 1) 0], 60, true, 1⟩), (0, ⟨(xs.map i64v), 3, false, 1⟩)]) (post := [(2, ⟨[.slice (some ⟨0, (min 2 xs.length), none⟩) (xs.length - 2) 0], 60, true, 1⟩)]) (v0 := .int .i64 (xs.getD 1 0 % 40)) (v := .int .i64 (xs.getD 1 0 % 40)) [2, 0] (by kernel_rfl) (by kernel_rfl) (by kernel_rfl) (by kernel_rfl) (nextz xs 1 40 (by decide) (by decide)) (.cons (.ptr _ _ (by decide)) (.cons (.flatB (by kernel_rfl)) .nil)) ⟨rfl, ⟨rfl, rfl, rfl, (.cons (.slice _ _ _ _ _ (by decide)) .nil)⟩, rfl, ⟨rfl, rfl, rfl, (.flats (flats_map (fun _ => rfl) _))⟩, trivial⟩ (by kernel_rfl) (by kernel_rfl) (by kernel_rfl) ⟨rfl, ⟨rfl, rfl, rfl, (.cons (.slice _ _ _ _ _ (by decide)) .nil)⟩, trivial⟩ (.flatB (by kernel_rfl))) <|
    .p (does_i ((xs.getD 1 0 % 40) - 20) (wrap_i64 (by omega) (by omega)) .i64) <| .a 1 3 <|
    .p (does_callB (x := .func 26) (ars := #[.tmp 14, .const (.int .i64 16)]) (ats := #[58, 3]) (g := 26) (vs := [.pointer (some ⟨2, 0, none⟩), .int .i64 16]) (m := 2) (r := 0) (firsts := #[]) (caps := #[]) (args0 := [.pointer (some ⟨0, 0, none⟩), .int .i64 16]) (pre0 := [(0, ⟨[.slice (some ⟨1, (min 2 xs.length), none⟩) (xs.length - 2) 0], 60, true, 1⟩), (1, ⟨(xs.map i64v), 3, false, 1⟩)]) (post0 := [(0, ⟨[.slice (some ⟨1, (min 3 xs.length), none⟩) (xs.length - 3) 0], 60, true, 1⟩)]) (pre := [(2, ⟨[.slice (some ⟨0, (min 2 xs.length), none⟩) (xs.length - 2) 0], 60, true, 1⟩), (0, ⟨(xs.map i64v), 3, false, 1⟩)]) (post := [(2, ⟨[.slice (some ⟨0, (min 3 xs.length), none⟩) (xs.length - 3) 0], 60, true, 1⟩)]) (v0 := .int .i64 (xs.getD 2 0 % 16)) (v := .int .i64 (xs.getD 2 0 % 16)) [2, 0] (by kernel_rfl) (by kernel_rfl) (by kernel_rfl) (by kernel_rfl) (nextz xs 2 16 (by decide) (by decide)) (.cons (.ptr _ _ (by decide)) (.cons (.flatB (by kernel_rfl)) .nil)) ⟨rfl, ⟨rfl, rfl, rfl, (.cons (.slice _ _ _ _ _ (by decide)) .nil)⟩, rfl, ⟨rfl, rfl, rfl, (.flats (flats_map (fun _ => rfl) _))⟩, trivial⟩ (by kernel_rfl) (by kernel_rfl) (by kernel_rfl) ⟨rfl, ⟨rfl, rfl, rfl, (.cons (.slice _ _ _ _ _ (by decide)) .nil)⟩, trivial⟩ (.flatB (by kernel_rfl))) <|
    .p (does_i (4 + (xs.getD 2 0 % 16)) (wrap_i64 (by omega) (by omega)) .i64) <|
    .p (does_callB (x := .func 25) (ars := #[.tmp 7, .tmp 10, .tmp 13, .tmp 16]) (ats := #[58, 3, 3, 3]) (g := 25) (vs := [.pointer (some ⟨2, 0, none⟩), .int .i64 ((xs.getD 0 0 % 40) - 20), .int .i64 ((xs.getD 1 0 % 40) - 20), .int .i64 (4 + (xs.getD 2 0 % 16))]) (m := 2) (r := 1) (firsts := #[]) (caps := #[]) (args0 := [.pointer (some ⟨0, 0, none⟩), .int .i64 ((xs.getD 0 0 % 40) - 20), .int .i64 ((xs.getD 1 0 % 40) - 20), .int .i64 (4 + (xs.getD 2 0 % 16))]) (pre0 := [(0, ⟨[.slice (some ⟨1, (min 3 xs.length), none⟩) (xs.length - 3) 0], 60, true, 1⟩), (1, ⟨(xs.map i64v), 3, false, 1⟩)]) (post0 := [(0, ⟨[.slice (some ⟨1, (min 5 xs.length), none⟩) (xs.length - 5) 0], 60, true, 1⟩), (2, ⟨[.int .i64 (((xs.getD 0 0 % 40) - 20) + (0 - (4 + (xs.getD 2 0 % 16)))), .int .i64 (((xs.getD 1 0 % 40) - 20) + (0 - (4 + (xs.getD 2 0 % 16)))), .int .i64 (((xs.getD 0 0 % 40) - 20) + 0), .int .i64 (((xs.getD 1 0 % 40) - 20) + (-1 - xs.getD 4 0 % ((4 + (xs.getD 2 0 % 16)) - 1))), .int .i64 (((xs.getD 0 0 % 40) - 20) + (4 + (xs.getD 2 0 % 16))), .int .i64 (((xs.getD 1 0 % 40) - 20) + (0 - (4 + (xs.getD 2 0 % 16)))), .int .i64 (((xs.getD 0 0 % 40) - 20) + 0), .int .i64 (((xs.getD 1 0 % 40) - 20) + (4 + (xs.getD 2 0 % 16)))], 27, true, 2⟩)]) (pre := [(2, ⟨[.slice (some ⟨0, (min 3 xs.length), none⟩) (xs.length - 3) 0], 60, true, 1⟩), (0, ⟨(xs.map i64v), 3, false, 1⟩)]) (post := [(2, ⟨[.slice (some ⟨0, (min 5 xs.length), none⟩) (xs.length - 5) 0], 60, true, 1⟩), (1, ⟨[.int .i64 (((xs.getD 0 0 % 40) - 20) + (0 - (4 + (xs.getD 2 0 % 16)))), .int .i64 (((xs.getD 1 0 % 40) - 20) + (0 - (4 + (xs.getD 2 0 % 16)))), .int .i64 (((xs.getD 0 0 % 40) - 20) + 0), .int .i64 (((xs.getD 1 0 % 40) - 20) + (-1 - xs.getD 4 0 % ((4 + (xs.getD 2 0 % 16)) - 1))), .int .i64 (((xs.getD 0 0 % 40) - 20) + (4 + (xs.getD 2 0 % 16))), .int .i64 (((xs.getD 1 0 % 40) - 20) + (0 - (4 + (xs.getD 2 0 % 16)))), .int .i64 (((xs.getD 0 0 % 40) - 20) + 0), .int .i64 (((xs.getD 1 0 % 40) - 20) + (4 + (xs.getD 2 0 % 16)))], 27, true, 2⟩)]) (v0 := .slice (some ⟨2, 0, none⟩) 4 0) (v := .slice (some ⟨1, 0, none⟩) 4 0) [2, 0, 1] (by kernel_rfl) (by kernel_rfl) (by kernel_rfl) (by kernel_rfl) (ring_3 xs ((xs.getD 0 0 % 40) - 20) ((xs.getD 1 0 % 40) - 20) (4 + (xs.getD 2 0 % 16)) (by omega) (by omega) (by omega) (by omega) (by omega) (by omega) hs) (.cons (.ptr _ _ (by decide)) (.cons (.flatB (by kernel_rfl)) (.cons (.flatB (by kernel_rfl)) (.cons (.flatB (by kernel_rfl)) .nil)))) ⟨rfl, ⟨rfl, rfl, rfl, (.cons (.slice _ _ _ _ _ (by decide)) .nil)⟩, rfl, ⟨rfl, rfl, rfl, (.flats (flats_map (fun _ => rfl) _))⟩, trivial⟩ (by kernel_rfl) (by kernel_rfl) (by kernel_rfl) ⟨rfl, ⟨rfl, rfl, rfl, (.cons (.slice _ _ _ _ _ (by decide)) .nil)⟩, rfl, ⟨rfl, rfl, rfl, (.flats (by kernel_rfl))⟩, trivial⟩ (.slice _ _ _ _ _ (by decide))) <|
    .a 1 3 <| .nil _ _) ?_
  refine aw_rt ?_
  exact en_ret [.slice (some ⟨1, 0, none⟩) 4 0] (by kernel_rfl)
theorem mring_4 (xs : List Int) (hs : xs.getD 3 0 % 5 = 4) :
    AC Try.prog 6 1 ([.slice (some ⟨0, 0, none⟩) xs.length 0]) [(0, ⟨(xs.map i64v), 3, false, 1⟩)] (.slice (some ⟨1, 0, none⟩) 8 0) [(1, ⟨[.int .i64 ((xs.getD 0 0 % 40 - 20) + (0 - (4 + xs.getD 2 0 % 16))), .int .i64 ((xs.getD 1 0 % 40 - 20) + (0 - (1 + xs.getD 4 0 % ((4 + xs.getD 2 0 % 16) - 1)))), .int .i64 ((xs.getD 0 0 % 40 - 20) + (0 - (1 + xs.getD 4 0 % ((4 + xs.getD 2 0 % 16) - 1)))), .int .i64 ((xs.getD 1 0 % 40 - 20) + (0 - (4 + xs.getD 2 0 % 16))), .int .i64 ((xs.getD 0 0 % 40 - 20) + (1 + xs.getD 4 0 % ((4 + xs.getD 2 0 % 16) - 1))), .int .i64 ((xs.getD 1 0 % 40 - 20) + (0 - (4 + xs.getD 2 0 % 16))), .int .i64 ((xs.getD 0 0 % 40 - 20) + (4 + xs.getD 2 0 % 16)), .int .i64 ((xs.getD 1 0 % 40 - 20) + (0 - (1 + xs.getD 4 0 % ((4 + xs.getD 2 0 % 16) - 1)))), .int .i64 ((xs.getD 0 0 % 40 - 20) + (4 + xs.getD 2 0 % 16)), .int .i64 ((xs.getD 1 0 % 40 - 20) + (1 + xs.getD 4 0 % ((4 + xs.getD 2 0 % 16) - 1))), .int .i64 ((xs.getD 0 0 % 40 - 20) + (1 + xs.getD 4 0 % ((4 + xs.getD 2 0 % 16) - 1))), .int .i64 ((xs.getD 1 0 % 40 - 20) + (4 + xs.getD 2 0 % 16)), .int .i64 ((xs.getD 0 0 % 40 - 20) + (0 - (1 + xs.getD 4 0 % ((4 + xs.getD 2 0 % 16) - 1)))), .int .i64 ((xs.getD 1 0 % 40 - 20) + (4 + xs.getD 2 0 % 16)), .int .i64 ((xs.getD 0 0 % 40 - 20) + (0 - (4 + xs.getD 2 0 % 16))), .int .i64 ((xs.getD 1 0 % 40 - 20) + (1 + xs.getD 4 0 % ((4 + xs.getD 2 0 % 16) - 1)))], 27, true, 2⟩)] := by
  have g0 := Sp.emod_bd (xs.getD 0 0) (n := 40) (by decide); have g1 := Sp.emod_bd (xs.getD 1 0) (n := 40) (by decide); have g2 := Sp.emod_bd (xs.getD 2 0) (n := 16) (by decide)
  refine ac_in Try.func6 (fun w0 W pin => ?_)
  refine aw_p 3 (
    .a 1 2 <| .nil _ _) ?_
  refine aw_p 7 (
    .a 4 2 <| .nil _ _) ?_
  refine aw_p 15 (
    .a 2 3 <|
    .p (does_callB (x := .func 26) (ars := #[.tmp 8, .const (.int .i64 40)]) (ats := #[58, 3]) (g := 26) (vs := [.pointer (some ⟨2, 0, none⟩), .int .i64 40]) (m := 2) (r := 0) (firsts := #[]) (caps := #[]) (args0 := [.pointer (some ⟨0, 0, none⟩), .int .i64 40]) (pre0 := [(0, ⟨[.slice (some ⟨1, 0, none⟩) xs.length 0], 60, true, 1⟩), (1, ⟨(xs.map i64v), 3, false, 1⟩)]) (post0 := [(0, ⟨[.slice (some ⟨1, (min 1 xs.length), none⟩) (xs.length - 1) 0], 60, true, 1⟩)]) (pre := [(2, ⟨[.slice (some ⟨0, 0, none⟩) xs.length 0], 60, true, 1⟩), (0, ⟨(xs.map i64v), 3, false, 1⟩)]) (post := [(2, ⟨[.slice (some ⟨0, (min 1 xs.length), none⟩) (xs.length - 1) 0], 60, true, 1⟩)]) (v0 := .int .i64 (xs.getD 0 0 % 40)) (v := .int .i64 (xs.getD 0 0 % 40)) [2, 0] (by kernel_rfl) (by kernel_rfl) (by kernel_rfl) (by kernel_rfl) (nextz0 xs 40 (by decide) (by decide)) (.cons (.ptr _ _ (by decide)) (.cons (.flatB (by kernel_rfl)) .nil)) ⟨rfl, ⟨rfl, rfl, rfl, (.cons (.slice _ _ _ _ _ (by decide)) .nil)⟩, rfl, ⟨rfl, rfl, rfl, (.flats (flats_map (fun _ => rfl) _))⟩, trivial⟩ (by kernel_rfl) (by kernel_rfl) (by kernel_rfl) ⟨rfl, ⟨rfl, rfl, rfl, (.cons (.slice _ _ _ _ _ (by decide)) .nil)⟩, trivial⟩ (.flatB (by kernel_rfl))) <|
    .p (does_i ((xs.getD 0 0 % 40) - 20) (wrap_i64 (by omega) (by omega)) .i64) <| .a 1 3 <|
    .p (does_callB (x := .func 26) (ars := #[.tmp 11, .const (.int .i64 40)]) (ats := #[58, 3]) (g := 26) (vs := [.pointer (some ⟨2, 0, none⟩), .int .i64 40]) (m := 2) (r := 0) (firsts := #[]) (caps := #[]) (args0 := [.pointer (some ⟨0, 0, none⟩), .int .i64 40]) (pre0 := [(0, ⟨[.slice (some ⟨1, (min 1 xs.length), none⟩) (xs.length - 1) 0], 60, true, 1⟩), (1, ⟨(xs.map i64v), 3, false, 1⟩)]) (post0 := [(0, ⟨[.slice (some ⟨1, (min 2 xs.length), none⟩) (xs.length - 2) 0], 60, true, 1⟩)]) (pre := [(2, ⟨[.slice (some ⟨0, (min 1 xs.length), none⟩) (xs.length - 1) 0], 60, true, 1⟩), (0, ⟨(xs.map i64v), 3, false, 1⟩)]) (post := [(2, ⟨[.slice (some ⟨0, (min 2 xs.length), none⟩) (xs.length - 2) 0], 60, true, 1⟩)]) (v0 := .int .i64 (xs.getD 1 0 % 40)) (v := .int .i64 (xs.getD 1 0 % 40)) [2, 0] (by kernel_rfl) (by kernel_rfl) (by kernel_rfl) (by kernel_rfl) (nextz xs 1 40 (by decide) (by decide)) (.cons (.ptr _ _ (by decide)) (.cons (.flatB (by kernel_rfl)) .nil)) ⟨rfl, ⟨rfl, rfl, rfl, (.cons (.slice _ _ _ _ _ (by decide)) .nil)⟩, rfl, ⟨rfl, rfl, rfl, (.flats (flats_map (fun _ => rfl) _))⟩, trivial⟩ (by kernel_rfl) (by kernel_rfl) (by kernel_rfl) ⟨rfl, ⟨rfl, rfl, rfl, (.cons (.slice _ _ _ _ _ (by decide)) .nil)⟩, trivial⟩ (.flatB (by kernel_rfl))) <|
    .p (does_i ((xs.getD 1 0 % 40) - 20) (wrap_i64 (by omega) (by omega)) .i64) <| .a 1 3 <|
    .p (does_callB (x := .func 26) (ars := #[.tmp 14, .const (.int .i64 16)]) (ats := #[58, 3]) (g := 26) (vs := [.pointer (some ⟨2, 0, none⟩), .int .i64 16]) (m := 2) (r := 0) (firsts := #[]) (caps := #[]) (args0 := [.pointer (some ⟨0, 0, none⟩), .int .i64 16]) (pre0 := [(0, ⟨[.slice (some ⟨1, (min 2 xs.length), none⟩) (xs.length - 2) 0], 60, true, 1⟩), (1, ⟨(xs.map i64v), 3, false, 1⟩)]) (post0 := [(0, ⟨[.slice (some ⟨1, (min 3 xs.length), none⟩) (xs.length - 3) 0], 60, true, 1⟩)]) (pre := [(2, ⟨[.slice (some ⟨0, (min 2 xs.length), none⟩) (xs.length - 2) 0], 60, true, 1⟩), (0, ⟨(xs.map i64v), 3, false, 1⟩)]) (post := [(2, ⟨[.slice (some ⟨0, (min 3 xs.length), none⟩) (xs.length - 3) 0], 60, true, 1⟩)]) (v0 := .int .i64 (xs.getD 2 0 % 16)) (v := .int .i64 (xs.getD 2 0 % 16)) [2, 0] (by kernel_rfl) (by kernel_rfl) (by kernel_rfl) (by kernel_rfl) (nextz xs 2 16 (by decide) (by decide)) (.cons (.ptr _ _ (by decide)) (.cons (.flatB (by kernel_rfl)) .nil)) ⟨rfl, ⟨rfl, rfl, rfl, (.cons (.slice _ _ _ _ _ (by decide)) .nil)⟩, rfl, ⟨rfl, rfl, rfl, (.flats (flats_map (fun _ => rfl) _))⟩, trivial⟩ (by kernel_rfl) (by kernel_rfl) (by kernel_rfl) ⟨rfl, ⟨rfl, rfl, rfl, (.cons (.slice _ _ _ _ _ (by decide)) .nil)⟩, trivial⟩ (.flatB (by kernel_rfl))) <|
    .p (does_i (4 + (xs.getD 2 0 % 16)) (wrap_i64 (by omega) (by omega)) .i64) <|
    .p (does_callB (x := .func 25) (ars := #[.tmp 7, .tmp 10, .tmp 13, .tmp 16]) (ats := #[58, 3, 3, 3]) (g := 25) (vs := [.pointer (some ⟨2, 0, none⟩), .int .i64 ((xs.getD 0 0 % 40) - 20), .int .i64 ((xs.getD 1 0 % 40) - 20), .int .i64 (4 + (xs.getD 2 0 % 16))]) (m := 2) (r := 1) (firsts := #[]) (caps := #[]) (args0 := [.pointer (some ⟨0, 0, none⟩), .int .i64 ((xs.getD 0 0 % 40) - 20), .int .i64 ((xs.getD 1 0 % 40) - 20), .int .i64 (4 + (xs.getD 2 0 % 16))]) (pre0 := [(0, ⟨[.slice (some ⟨1, (min 3 xs.length), none⟩) (xs.length - 3) 0], 60, true, 1⟩), (1, ⟨(xs.map i64v), 3, false, 1⟩)]) (post0 := [(0, ⟨[.slice (some ⟨1, (min 5 xs.length), none⟩) (xs.length - 5) 0], 60, true, 1⟩), (2, ⟨[.int .i64 (((xs.getD 0 0 % 40) - 20) + (0 - (4 + (xs.getD 2 0 % 16)))), .int .i64 (((xs.getD 1 0 % 40) - 20) + (0 - (1 + xs.getD 4 0 % ((4 + (xs.getD 2 0 % 16)) - 1)))), .int .i64 (((xs.getD 0 0 % 40) - 20) + (0 - (1 + xs.getD 4 0 % ((4 + (xs.getD 2 0 % 16)) - 1)))), .int .i64 (((xs.getD 1 0 % 40) - 20) + (0 - (4 + (xs.getD 2 0 % 16)))), .int .i64 (((xs.getD 0 0 % 40) - 20) + (1 + xs.getD 4 0 % ((4 + (xs.getD 2 0 % 16)) - 1))), .int .i64 (((xs.getD 1 0 % 40) - 20) + (0 - (4 + (xs.getD 2 0 % 16)))), .int .i64 (((xs.getD 0 0 % 40) - 20) + (4 + (xs.getD 2 0 % 16))), .int .i64 (((xs.getD 1 0 % 40) - 20) + (0 - (1 + xs.getD 4 0 % ((4 + (xs.getD 2 0 % 16)) - 1)))), .int .i64 (((xs.getD 0 0 % 40) - 20) + (4 + (xs.getD 2 0 % 16))), .int .i64 (((xs.getD 1 0 % 40) - 20) + (1 + xs.getD 4 0 % ((4 + (xs.getD 2 0 % 16)) - 1))), .int .i64 (((xs.getD 0 0 % 40) - 20) + (1 + xs.getD 4 0 % ((4 + (xs.getD 2 0 % 16)) - 1))), .int .i64 (((xs.getD 1 0 % 40) - 20) + (4 + (xs.getD 2 0 % 16))), .int .i64 (((xs.getD 0 0 % 40) - 20) + (0 - (1 + xs.getD 4 0 % ((4 + (xs.getD 2 0 % 16)) - 1)))), .int .i64 (((xs.getD 1 0 % 40) - 20) + (4 + (xs.getD 2 0 % 16))), .int .i64 (((xs.getD 0 0 % 40) - 20) + (0 - (4 + (xs.getD 2 0 % 16)))), .int .i64 (((xs.getD 1 0 % 40) - 20) + (1 + xs.getD 4 0 % ((4 + (xs.getD 2 0 % 16)) - 1)))], 27, true, 2⟩)]) (pre := [(2, ⟨[.slice (some ⟨0, (min 3 xs.length), none⟩) (xs.length - 3) 0], 60, true, 1⟩), (0, ⟨(xs.map i64v), 3, false, 1⟩)]) (post := [(2, ⟨[.slice (some ⟨0, (min 5 xs.length), none⟩) (xs.length - 5) 0], 60, true, 1⟩), (1, ⟨[.int .i64 (((xs.getD 0 0 % 40) - 20) + (0 - (4 + (xs.getD 2 0 % 16)))), .int .i64 (((xs.getD 1 0 % 40) - 20) + (0 - (1 + xs.getD 4 0 % ((4 + (xs.getD 2 0 % 16)) - 1)))), .int .i64 (((xs.getD 0 0 % 40) - 20) + (0 - (1 + xs.getD 4 0 % ((4 + (xs.getD 2 0 % 16)) - 1)))), .int .i64 (((xs.getD 1 0 % 40) - 20) + (0 - (4 + (xs.getD 2 0 % 16)))), .int .i64 (((xs.getD 0 0 % 40) - 20) + (1 + xs.getD 4 0 % ((4 + (xs.getD 2 0 % 16)) - 1))), .int .i64 (((xs.getD 1 0 % 40) - 20) + (0 - (4 + (xs.getD 2 0 % 16)))), .int .i64 (((xs.getD 0 0 % 40) - 20) + (4 + (xs.getD 2 0 % 16))), .int .i64 (((xs.getD 1 0 % 40) - 20) + (0 - (1 + xs.getD 4 0 % ((4 + (xs.getD 2 0 % 16)) - 1)))), .int .i64 (((xs.getD 0 0 % 40) - 20) + (4 + (xs.getD 2 0 % 16))), .int .i64 (((xs.getD 1 0 % 40) - 20) + (1 + xs.getD 4 0 % ((4 + (xs.getD 2 0 % 16)) - 1))), .int .i64 (((xs.getD 0 0 % 40) - 20) + (1 + xs.getD 4 0 % ((4 + (xs.getD 2 0 % 16)) - 1))), .int .i64 (((xs.getD 1 0 % 40) - 20) + (4 + (xs.getD 2 0 % 16))), .int .i64 (((xs.getD 0 0 % 40) - 20) + (0 - (1 + xs.getD 4 0 % ((4 + (xs.getD 2 0 % 16)) - 1)))), .int .i64 (((xs.getD 1 0 % 40) - 20) + (4 + (xs.getD 2 0 % 16))), .int .i64 (((xs.getD 0 0 % 40) - 20) + (0 - (4 + (xs.getD 2 0 % 16)))), .int .i64 (((xs.getD 1 0 % 40) - 20) + (1 + xs.getD 4 0 % ((4 + (xs.getD 2 0 % 16)) - 1)))], 27, true, 2⟩)]) (v0 := .slice (some ⟨2, 0, none⟩) 8 0) (v := .slice (some ⟨1, 0, none⟩) 8 0) [2, 0, 1] (by kernel_rfl) (by kernel_rfl) (by kernel_rfl) (by kernel_rfl) (ring_4 xs ((xs.getD 0 0 % 40) - 20) ((xs.getD 1 0 % 40) - 20) (4 + (xs.getD 2 0 % 16)) (by omega) (by omega) (by omega) (by omega) (by omega) (by omega) hs) (.cons (.ptr _ _ (by decide)) (.cons (.flatB (by kernel_rfl)) (.cons (.flatB (by kernel_rfl)) (.cons (.flatB (by kernel_rfl)) .nil)))) ⟨rfl, ⟨rfl, rfl, rfl, (.cons (.slice _ _ _ _ _ (by decide)) .nil)⟩, rfl, ⟨rfl, rfl, rfl, (.flats (flats_map (fun _ => rfl) _))⟩, trivial⟩ (by kernel_rfl) (by kernel_rfl) (by kernel_rfl) ⟨rfl, ⟨rfl, rfl, rfl, (.cons (.slice _ _ _ _ _ (by decide)) .nil)⟩, rfl, ⟨rfl, rfl, rfl, (.flats (by kernel_rfl))⟩, trivial⟩ (.slice _ _ _ _ _ (by decide))) <|
    .a 1 3 <| .nil _ _) ?_
  refine aw_rt ?_
  exact en_ret [.slice (some ⟨1, 0, none⟩) 8 0] (by kernel_rfl)
theorem mring_ok (xs : List Int) : AC Try.prog 6 1 [.slice (some ⟨0, 0, none⟩) xs.length 0] [(0, ⟨(xs.map i64v), 3, false, 1⟩)] (.slice (some ⟨1, 0, none⟩) (Sp.rngL xs).length 0) [(1, ⟨((Sp.rngL xs).flatMap ptc), 27, true, 2⟩)] := by
  have g := Sp.emod_bd (xs.getD 3 0) (n := 5) (by decide)
  rcases (show xs.getD 3 0 % 5 = 0 ∨ xs.getD 3 0 % 5 = 1 ∨ xs.getD 3 0 % 5 = 2 ∨ xs.getD 3 0 % 5 = 3 ∨ xs.getD 3 0 % 5 = 4 by omega) with h | h | h | h | h
  · have q := mring_0 xs h
    unfold Sp.rngL
    rw [h]
    exact q
  · have q := mring_1 xs h
    unfold Sp.rngL
    rw [h]
    exact q
  · have q := mring_2 xs h
    unfold Sp.rngL
    rw [h]
    exact q
  · have q := mring_3 xs h
    unfold Sp.rngL
    rw [h]
    exact q
  · have q := mring_4 xs h
    unfold Sp.rngL
    rw [h]
    exact q
end Go.Proofs.Ytomnkdlfmjdckaa.Am
