import Derived.Test.YtomnkdlfmjdckaaHu5
import Derived.Test.YtomnkdlfmjdckaaTh5
import Derived.Test.YtomnkdlfmjdckaaRg8
set_option linter.unusedVariables false
set_option linter.unusedSimpArgs false
namespace Go.Proofs.Ytomnkdlfmjdckaa.Am.Sp
open Go
/-! Convex hulls: what the laws compute -/
def smP (x : Int) : Int × Int := (x % 81 - 40, Int.tdiv x 81 % 81 - 40)
def ptsL (xs : List Int) : List (Int × Int) := (xs.take 15).map smP
theorem smP_bd (x : Int) : (-40 ≤ (smP x).1 ∧ (smP x).1 ≤ 40) ∧ (-40 ≤ (smP x).2 ∧ (smP x).2 ≤ 40) := by
  have a := Int.emod_nonneg x (b := 81) (by decide)
  have b := Int.emod_lt_of_pos x (b := 81) (by decide)
  have c := Int.emod_nonneg (Int.tdiv x 81) (b := 81) (by decide)
  have d := Int.emod_lt_of_pos (Int.tdiv x 81) (b := 81) (by decide)
  unfold smP; simp only []; omega
theorem ptsL_few (xs) : Few 40 (ptsL xs) := few_of (by decide) (fun q hq => by obtain ⟨x, _, rfl⟩ := List.mem_map.1 hq; exact smP_bd x)
theorem sm_snoc {xs : List Int} {i : Nat} {l : List Value} (h : i < xs.length) (hl : ptc (smP (xs.getD i 0)) = l) : ((xs.take i).map smP).flatMap ptc ++ l = ((xs.take (i + 1)).map smP).flatMap ptc := by
  rw [List.take_succ_eq_append_getElem h, List.map_append, List.flatMap_append, ← hl]
  have : xs.getD i 0 = xs[i] := by rw [List.getD_eq_getElem?_getD, List.getElem?_eq_getElem h]; rfl
  rw [this]; simp
theorem sm_one {xs : List Int} {l : List Value} (h : 0 < xs.length) (hl : ptc (smP (xs.getD 0 0)) = l) : ((xs.take 1).map smP).flatMap ptc = l := by
  have := sm_snoc (i := 0) h hl
  simpa using this.symm
/-- the greatest square of a distance, as the code comes to it -/
def farI (h : List (Int × Int)) (i k : Nat) (m : Int) : Int :=
  if k < i then farI h i (k + 1) (mx m (dot (h.getD i (0, 0)).1 (h.getD i (0, 0)).2 (h.getD k (0, 0)).1 (h.getD k (0, 0)).2 (h.getD k (0, 0)).1 (h.getD k (0, 0)).2)) else m
termination_by i - k
def farF (h : List (Int × Int)) (i : Nat) (m : Int) : Int := if i < h.length then farF h (i + 1) (farI h i 0 m) else m
termination_by h.length - i
theorem farI_go {h : List (Int × Int)} {i k : Nat} {m : Int} (hk : k < i) : farI h i (k + 1) (mx m (dot (h.getD i (0, 0)).1 (h.getD i (0, 0)).2 (h.getD k (0, 0)).1 (h.getD k (0, 0)).2 (h.getD k (0, 0)).1 (h.getD k (0, 0)).2)) = farI h i k m := by
  conv => rhs; rw [farI, if_pos hk]
theorem farI_end {h : List (Int × Int)} {i k : Nat} {m : Int} (hk : ¬ k < i) : farI h i k m = m := by rw [farI, if_neg hk]
theorem farF_go {h : List (Int × Int)} {i : Nat} {m : Int} (hi : i < h.length) : farF h (i + 1) (farI h i 0 m) = farF h i m := by
  conv => rhs; rw [farF, if_pos hi]
theorem farF_end {h : List (Int × Int)} {i : Nat} {m : Int} (hi : ¬ i < h.length) : farF h i m = m := by rw [farF, if_neg hi]
theorem farF_next {h : List (Int × Int)} {i k : Nat} {m a : Int} (hi : i < h.length) (hk : ¬ k < i) (e : farI h i k m = farI h i 0 a) : farF h (i + 1) m = farF h i a := by
  rw [farI_end hk] at e; rw [e, farF_go hi]
/-- a turn to the left is one -/
theorem tn_one {h : List (Int × Int)} {i j k : Nat} (hj : (i + 1) % h.length = j) (hk : (i + 2) % h.length = k) (ht : 0 < crP (h.getD i (0, 0)) (h.getD ((i + 1) % h.length) (0, 0)) (h.getD ((i + 2) % h.length) (0, 0))) :
    (cmp (crs (h.getD i (0, 0)).1 (h.getD i (0, 0)).2 (h.getD j (0, 0)).1 (h.getD j (0, 0)).2 (h.getD k (0, 0)).1 (h.getD k (0, 0)).2) 0 != 1) = false := by
  rw [hj, hk] at ht
  unfold crP at ht
  unfold cmp
  rw [if_neg (by omega), if_pos ht]; rfl
theorem any_in {ps h : List (Int × Int)} {i : Nat} (hi : i < h.length) (hs : ∀ q ∈ h, q ∈ ps) : (ps.any (eqTo ((h.getD i (0, 0)).1, (h.getD i (0, 0)).2))) = true :=
  List.any_eq_true.2 ⟨_, hs _ (mem_getD hi), (eqTo_iff _ _).2 rfl⟩
end Go.Proofs.Ytomnkdlfmjdckaa.Am.Sp

set_option linter.unusedVariables false
set_option linter.unusedSimpArgs false
namespace Go.Proofs.Ytomnkdlfmjdckaa.Am.Sp
open Go
/-! Seen from outside -/
def dsq (p q : Int × Int) : Int := dot p.1 p.2 q.1 q.2 q.1 q.2
def stA (p a q : Int × Int) : Bool := decide (crP p a q < 0) || (decide (crP p a q = 0) && decide (dsq p q < dsq p a))
def stB (p a q : Int × Int) : Bool := decide (0 < crP p a q) || (decide (crP p a q = 0) && decide (dsq p q < dsq p a))
def seA (h : List (Int × Int)) (p : Int × Int) : Nat → Int × Int
  | 0 => h.getD 0 (0, 0)
  | k + 1 => if stA p (seA h p k) (h.getD (1 + k) (0, 0)) = true then h.getD (1 + k) (0, 0) else seA h p k
def seB (h : List (Int × Int)) (p : Int × Int) : Nat → Int × Int
  | 0 => h.getD 0 (0, 0)
  | k + 1 => if stB p (seB h p k) (h.getD (1 + k) (0, 0)) = true then h.getD (1 + k) (0, 0) else seB h p k
section
variable {h : List (Int × Int)} {x y ax ay : Int} {k : Nat}
theorem c_lt (n : Int) : decide (cmp n 0 < 0) = decide (n < 0) := cmp_lt0 n
theorem c_gt (n : Int) : decide (cmp n 0 > 0) = decide (0 < n) := cmpd_pos n
theorem c_eq (n : Int) : (cmp n 0 == 0) = decide (n = 0) := by
  rw [Bool.eq_iff_iff, beq_iff_eq, decide_eq_true_eq]; unfold cmp; split <;> (try split) <;> omega
theorem seA_y1 (hA : (ax, ay) = seA h (x, y) k) (e1 : decide (cmp (crs x y ax ay (h.getD (1 + k) (0, 0)).1 (h.getD (1 + k) (0, 0)).2) 0 < 0) = true) : ((h.getD (1 + k) (0, 0)).1, (h.getD (1 + k) (0, 0)).2) = seA h (x, y) (k + 1) := by
  rw [c_lt] at e1
  rw [seA, ← hA, if_pos]; unfold stA crP; rw [e1]; rfl
theorem seA_y2 (hA : (ax, ay) = seA h (x, y) k) (e2 : (cmp (crs x y ax ay (h.getD (1 + k) (0, 0)).1 (h.getD (1 + k) (0, 0)).2) 0 == 0) = true) (e3 : decide (dot x y (h.getD (1 + k) (0, 0)).1 (h.getD (1 + k) (0, 0)).2 (h.getD (1 + k) (0, 0)).1 (h.getD (1 + k) (0, 0)).2 < dot x y ax ay ax ay) = true) : ((h.getD (1 + k) (0, 0)).1, (h.getD (1 + k) (0, 0)).2) = seA h (x, y) (k + 1) := by
  rw [c_eq] at e2
  rw [seA, ← hA, if_pos]; unfold stA crP dsq; rw [e2, e3]; simp
theorem seA_n2 (hA : (ax, ay) = seA h (x, y) k) (e1 : decide (cmp (crs x y ax ay (h.getD (1 + k) (0, 0)).1 (h.getD (1 + k) (0, 0)).2) 0 < 0) = false) (e2 : (cmp (crs x y ax ay (h.getD (1 + k) (0, 0)).1 (h.getD (1 + k) (0, 0)).2) 0 == 0) = false) : (ax, ay) = seA h (x, y) (k + 1) := by
  rw [c_lt] at e1; rw [c_eq] at e2
  rw [seA, ← hA, if_neg]; unfold stA crP; rw [e1, e2]; simp
theorem seA_n3 (hA : (ax, ay) = seA h (x, y) k) (e1 : decide (cmp (crs x y ax ay (h.getD (1 + k) (0, 0)).1 (h.getD (1 + k) (0, 0)).2) 0 < 0) = false) (e3 : decide (dot x y (h.getD (1 + k) (0, 0)).1 (h.getD (1 + k) (0, 0)).2 (h.getD (1 + k) (0, 0)).1 (h.getD (1 + k) (0, 0)).2 < dot x y ax ay ax ay) = false) : (ax, ay) = seA h (x, y) (k + 1) := by
  rw [c_lt] at e1
  rw [seA, ← hA, if_neg]; unfold stA crP dsq; rw [e1, e3]; simp
theorem seB_y1 (hA : (ax, ay) = seB h (x, y) k) (e1 : decide (cmp (crs x y ax ay (h.getD (1 + k) (0, 0)).1 (h.getD (1 + k) (0, 0)).2) 0 > 0) = true) : ((h.getD (1 + k) (0, 0)).1, (h.getD (1 + k) (0, 0)).2) = seB h (x, y) (k + 1) := by
  rw [c_gt] at e1
  rw [seB, ← hA, if_pos]; unfold stB crP; rw [e1]; rfl
theorem seB_y2 (hA : (ax, ay) = seB h (x, y) k) (e2 : (cmp (crs x y ax ay (h.getD (1 + k) (0, 0)).1 (h.getD (1 + k) (0, 0)).2) 0 == 0) = true) (e3 : decide (dot x y (h.getD (1 + k) (0, 0)).1 (h.getD (1 + k) (0, 0)).2 (h.getD (1 + k) (0, 0)).1 (h.getD (1 + k) (0, 0)).2 < dot x y ax ay ax ay) = true) : ((h.getD (1 + k) (0, 0)).1, (h.getD (1 + k) (0, 0)).2) = seB h (x, y) (k + 1) := by
  rw [c_eq] at e2
  rw [seB, ← hA, if_pos]; unfold stB crP dsq; rw [e2, e3]; simp
theorem seB_n2 (hA : (ax, ay) = seB h (x, y) k) (e1 : decide (cmp (crs x y ax ay (h.getD (1 + k) (0, 0)).1 (h.getD (1 + k) (0, 0)).2) 0 > 0) = false) (e2 : (cmp (crs x y ax ay (h.getD (1 + k) (0, 0)).1 (h.getD (1 + k) (0, 0)).2) 0 == 0) = false) : (ax, ay) = seB h (x, y) (k + 1) := by
  rw [c_gt] at e1; rw [c_eq] at e2
  rw [seB, ← hA, if_neg]; unfold stB crP; rw [e1, e2]; simp
theorem seB_n3 (hA : (ax, ay) = seB h (x, y) k) (e1 : decide (cmp (crs x y ax ay (h.getD (1 + k) (0, 0)).1 (h.getD (1 + k) (0, 0)).2) 0 > 0) = false) (e3 : decide (dot x y (h.getD (1 + k) (0, 0)).1 (h.getD (1 + k) (0, 0)).2 (h.getD (1 + k) (0, 0)).1 (h.getD (1 + k) (0, 0)).2 < dot x y ax ay ax ay) = false) : (ax, ay) = seB h (x, y) (k + 1) := by
  rw [c_gt] at e1
  rw [seB, ← hA, if_neg]; unfold stB crP dsq; rw [e1, e3]; simp
end
theorem seA_mem {h : List (Int × Int)} {p : Int × Int} : ∀ {k : Nat}, k < h.length → seA h p k ∈ h
  | 0, hk => mem_getD hk
  | k + 1, hk => by
    rw [seA]
    split
    · exact mem_getD (by omega)
    · exact seA_mem (by omega)
theorem seB_mem {h : List (Int × Int)} {p : Int × Int} : ∀ {k : Nat}, k < h.length → seB h p k ∈ h
  | 0, hk => mem_getD hk
  | k + 1, hk => by
    rw [seB]
    split
    · exact mem_getD (by omega)
    · exact seB_mem (by omega)
/-- of points ahead: left of, from one to the other -/
theorem turn_trans {d p a q j : Int × Int} (ha : 0 < d.1 * (a.2 - p.2) - d.2 * (a.1 - p.1)) (hq : 0 < d.1 * (q.2 - p.2) - d.2 * (q.1 - p.1)) (hj : 0 < d.1 * (j.2 - p.2) - d.2 * (j.1 - p.1)) (h1 : 0 ≤ crP p a j) (h2 : 0 ≤ crP p q a) : 0 ≤ crP p q j := by
  apply Classical.byContradiction
  intro hn
  have e : (d.1 * (a.2 - p.2) - d.2 * (a.1 - p.1)) * crP p q j = (d.1 * (q.2 - p.2) - d.2 * (q.1 - p.1)) * crP p a j + (d.1 * (j.2 - p.2) - d.2 * (j.1 - p.1)) * crP p q a := by unfold crP crs; grind
  have n1 := mulnnH (Int.le_of_lt hq) h1
  have n2 := mulnnH (Int.le_of_lt hj) h2
  have := Int.mul_neg_of_pos_of_neg ha (show crP p q j < 0 by omega)
  omega
theorem crP_flip (p a q : Int × Int) : crP p q a = -crP p a q := by unfold crP crs; grind
theorem seA_ok {h : List (Int × Int)} {p d : Int × Int} (hf : ∀ q ∈ h, 0 < d.1 * (q.2 - p.2) - d.2 * (q.1 - p.1)) : ∀ {k : Nat}, k < h.length → ∀ j, j ≤ k → 0 ≤ crP p (seA h p k) (h.getD j (0, 0))
  | 0, hk, j, hj => by
    rw [show j = 0 by omega, seA, crP_self]; exact Int.le_refl _
  | k + 1, hk, j, hj => by
    have ih := seA_ok hf (k := k) (by omega)
    have hm := seA_mem (h := h) (p := p) (k := k) (by omega)
    rw [seA]
    split
    · rename_i c
      have hs : crP p (seA h p k) (h.getD (1 + k) (0, 0)) ≤ 0 := by
        unfold stA at c
        simp only [Bool.or_eq_true, Bool.and_eq_true, decide_eq_true_eq] at c
        omega
      have h2 : 0 ≤ crP p (h.getD (1 + k) (0, 0)) (seA h p k) := by rw [crP_flip]; omega
      rcases Nat.lt_or_ge j (k + 1) with g | g
      · exact turn_trans (d := d) (hf _ hm) (hf _ (mem_getD (by omega))) (hf _ (mem_getD (by omega))) (ih j (by omega)) h2
      · rw [show j = 1 + k by omega, crP_self]; exact Int.le_refl _
    · rename_i c
      rcases Nat.lt_or_ge j (k + 1) with g | g
      · exact ih j (by omega)
      · rw [show j = 1 + k by omega]
        unfold stA at c
        simp only [Bool.or_eq_true, Bool.and_eq_true, decide_eq_true_eq, not_or] at c
        omega
theorem seB_ok {h : List (Int × Int)} {p d : Int × Int} (hf : ∀ q ∈ h, 0 < d.1 * (q.2 - p.2) - d.2 * (q.1 - p.1)) : ∀ {k : Nat}, k < h.length → ∀ j, j ≤ k → crP p (seB h p k) (h.getD j (0, 0)) ≤ 0
  | 0, hk, j, hj => by
    rw [show j = 0 by omega, seB, crP_self]; exact Int.le_refl _
  | k + 1, hk, j, hj => by
    have ih := seB_ok hf (k := k) (by omega)
    have hm := seB_mem (h := h) (p := p) (k := k) (by omega)
    rw [seB]
    split
    · rename_i c
      have hs : 0 ≤ crP p (seB h p k) (h.getD (1 + k) (0, 0)) := by
        unfold stB at c
        simp only [Bool.or_eq_true, Bool.and_eq_true, decide_eq_true_eq] at c
        omega
      rcases Nat.lt_or_ge j (k + 1) with g | g
      · have i1 := ih j (by omega)
        have := turn_trans (d := d) (p := p) (a := seB h p k) (q := h.getD j (0, 0)) (j := h.getD (1 + k) (0, 0)) (hf _ hm) (hf _ (mem_getD (by omega))) (hf _ (mem_getD (by omega))) hs (by rw [crP_flip]; omega)
        rw [crP_flip] at this; omega
      · rw [show j = 1 + k by omega, crP_self]; exact Int.le_refl _
    · rename_i c
      rcases Nat.lt_or_ge j (k + 1) with g | g
      · exact ih j (by omega)
      · rw [show j = 1 + k by omega]
        unfold stB at c
        simp only [Bool.or_eq_true, Bool.and_eq_true, decide_eq_true_eq, not_or] at c
        omega
/-- an index at which a function is least -/
theorem least_at (g : Nat → Int) : ∀ n : Nat, 0 < n → ∃ m, m < n ∧ ∀ i, i < n → g m ≤ g i
  | 0, h => by omega
  | 1, _ => ⟨0, by omega, fun i hi => by rw [show i = 0 by omega]; exact Int.le_refl _⟩
  | n + 2, _ => by
    obtain ⟨m, h1, h2⟩ := least_at g (n + 1) (by omega)
    by_cases c : g m ≤ g (n + 1)
    · exact ⟨m, by omega, fun i hi => by rcases Nat.lt_or_ge i (n + 1) with k | k; exact h2 i k; rw [show i = n + 1 by omega]; exact c⟩
    · exact ⟨n + 1, by omega, fun i hi => by rcases Nat.lt_or_ge i (n + 1) with k | k; have := h2 i k; omega; rw [show i = n + 1 by omega]; exact Int.le_refl _⟩
/-- what holds all corners on one side holds all points there -/
theorem half_all {ps : List (Int × Int)} (h3 : 2 < (hullF ps).length) {p a : Int × Int} (hc : ∀ i, i < (hullF ps).length → 0 ≤ crP p a ((hullF ps).getD i (0, 0))) {q : Int × Int} (hq : q ∈ ps) : 0 ≤ crP p a q := by
  have hn0 : ∃ n, (hullF ps).length = n := ⟨_, rfl⟩
  obtain ⟨n, hn⟩ := hn0
  obtain ⟨m, hm, hl⟩ := least_at (fun i => crP p a ((hullF ps).getD i (0, 0))) n (by omega)
  have hi : (m + (n - 1)) % n < n := Nat.mod_lt _ (by omega)
  have t := hull_turn h3 (i := (m + (n - 1)) % n) (by omega)
  have e1 := hull_edge (ps := ps) (by omega) (i := (m + (n - 1)) % n) (by omega) hq
  have e2 := hull_edge (ps := ps) (by omega) (i := m) (by omega) hq
  rw [hn] at t e1 e2
  have m1 : ((m + (n - 1)) % n + 1) % n = m := by rw [Nat.mod_add_mod, show m + (n - 1) + 1 = m + n by omega, Nat.add_mod_right, Nat.mod_eq_of_lt hm]
  have m2 : ((m + (n - 1)) % n + 2) % n = (m + 1) % n := by rw [Nat.mod_add_mod, show m + (n - 1) + 2 = m + 1 + n by omega, Nat.add_mod_right]
  rw [m1, m2] at t
  rw [m1] at e1
  have l1 := hl _ hi
  have l2 := hl ((m + 1) % n) (Nat.mod_lt _ (by omega))
  have l0 := hc m (by omega)
  generalize (hullF ps).getD ((m + (n - 1)) % n) (0, 0) = U at *
  generalize (hullF ps).getD ((m + 1) % n) (0, 0) = V at *
  generalize (hullF ps).getD m (0, 0) = M at *
  -- U, M, V: a left turn at M; q left of both edges; M is least
  have e : (crP p a q - crP p a M) * crP U M V = (crP p a V - crP p a M) * crP U M q + (crP p a U - crP p a M) * crP M V q := by unfold crP crs; grind
  have n1 := mulnnH (show 0 ≤ crP p a V - crP p a M by omega) e1
  have n2 := mulnnH (show 0 ≤ crP p a U - crP p a M by omega) e2
  apply Classical.byContradiction
  intro hn
  have := Int.mul_neg_of_neg_of_pos (show crP p a q - crP p a M < 0 by omega) t
  omega
theorem hasL_ex {h : List (Int × Int)} {x y : Int} : ∀ (k i : Nat), i + k = h.length → hasL h x y i = false → ∃ j, j < h.length ∧ crs (h.getD j (0, 0)).1 (h.getD j (0, 0)).2 (h.getD ((j + 1) % h.length) (0, 0)).1 (h.getD ((j + 1) % h.length) (0, 0)).2 x y < 0
  | 0, i, e, hf => by rw [hasL_end (by omega)] at hf; cases hf
  | k + 1, i, e, hf => by
    rw [hasL, if_pos (by omega)] at hf
    split at hf
    · rename_i c; exact ⟨i, by omega, c⟩
    · exact hasL_ex k (i + 1) (by omega) hf
theorem hull_one {ps : List (Int × Int)} (e : (hullF ps).length = 1) {q : Int × Int} (hq : q ∈ ps) : q = (hullF ps).getD 0 (0, 0) := by
  have hm := srd_mem.2 hq
  rcases Nat.lt_or_ge (srd ps).length 2 with g | g
  · rw [hullF_one g] at *
    match hs : srd ps, hm, e with
    | [a], hm, _ => exact List.mem_singleton.1 hm
  · obtain ⟨w, w2⟩ := hul_srd g
    have := w.two w2
    rw [hullF_two g, ring2_len] at e; omega
theorem hull_two {ps : List (Int × Int)} (e2 : (hullF ps).length = 2) {p : Int × Int} (hp : p ∈ ps) : lxP ((hullF ps).getD 0 (0, 0)) ((hullF ps).getD 1 (0, 0)) ∧ crP ((hullF ps).getD 0 (0, 0)) ((hullF ps).getD 1 (0, 0)) p = 0 ∧
    (p = (hullF ps).getD 0 (0, 0) ∨ lxP ((hullF ps).getD 0 (0, 0)) p) ∧ (p = (hullF ps).getD 1 (0, 0) ∨ lxP p ((hullF ps).getD 1 (0, 0))) := by
  have c : 2 ≤ (hullF ps).length := by omega
  have g : 2 ≤ (srd ps).length := by
    rcases Nat.lt_or_ge (srd ps).length 2 with g | g
    · rw [hullF_one g] at c; omega
    · exact g
  obtain ⟨q, q2⟩ := hul_srd g
  have a0 := hull_edge (i := 0) c (by omega) hp
  have a1 := hull_edge (i := 1) c (by omega) hp
  rw [e2] at a0 a1
  simp only [Nat.zero_add, Nat.reduceMod, Nat.reduceAdd] at a0 a1
  have ee : crP ((hullF ps).getD 1 (0, 0)) ((hullF ps).getD 0 (0, 0)) p = -crP ((hullF ps).getD 0 (0, 0)) ((hullF ps).getD 1 (0, 0)) p := by unfold crP crs; grind
  have u2 := q.two q2
  have hn : ring2 (stk (srd ps) (srd ps).length) (stk (srd ps).reverse (srd ps).reverse.length) = hullF ps := (hullF_two g).symm
  have hn2 := ring2_len (L := stk (srd ps) (srd ps).length) (U := stk (srd ps).reverse (srd ps).reverse.length)
  rw [hn] at hn2
  have r0 := q.ring_at (i := 0) (by rw [hn]; omega)
  have r1 := q.ring_at (i := 1) (by rw [hn]; omega)
  rw [hn] at r0 r1
  unfold cnr at r0 r1
  rw [if_pos (by omega), Nat.sub_zero] at r0
  rw [if_pos (by omega), show (stk (srd ps) (srd ps).length).length - 1 - 1 = 0 by omega] at r1
  refine ⟨?_, by omega, ?_, ?_⟩
  · rw [r0, r1, show (stk (srd ps) (srd ps).length).length - 1 = 0 + 1 by omega]; exact q.low.ds.at (by omega)
  · rw [r0]; exact q.bot.2 p (srd_mem.2 hp)
  · rw [r1]; exact q.top.2 p (srd_mem.2 hp)
/-- between two points on one side lies what is on that side -/
theorem side_between {a b q p c : Int × Int} (hab : lxP a b) (h0 : crP a b q = 0) (h1 : q = a ∨ lxP a q) (h2 : q = b ∨ lxP q b) (ga : 0 ≤ crP p c a) (gb : 0 ≤ crP p c b) : 0 ≤ crP p c q := by
  have e1 : (b.1 - a.1) * crP p c q = (b.1 - q.1) * crP p c a + (q.1 - a.1) * crP p c b + (c.1 - p.1) * crP a b q := by unfold crP crs; grind
  have e2 : (b.2 - a.2) * crP p c q = (b.2 - q.2) * crP p c a + (q.2 - a.2) * crP p c b + (c.2 - p.2) * crP a b q := by unfold crP crs; grind
  rw [h0, Int.mul_zero, Int.add_zero] at e1 e2
  apply Classical.byContradiction
  intro hn
  have w1 : 0 ≤ q.1 - a.1 ∧ 0 ≤ b.1 - q.1 := by
    constructor
    · rcases h1 with k | k
      · subst k; omega
      · unfold lxP at k; omega
    · rcases h2 with k | k
      · subst k; omega
      · unfold lxP at k; omega
  rcases hab with hd | ⟨hd, hd2⟩
  · have := Int.mul_neg_of_pos_of_neg (show 0 < b.1 - a.1 by omega) (show crP p c q < 0 by omega)
    have := mulnnH w1.2 ga
    have := mulnnH w1.1 gb
    omega
  · have w2 : 0 ≤ q.2 - a.2 ∧ 0 ≤ b.2 - q.2 := by
      constructor
      · rcases h1 with k | k
        · subst k; omega
        · unfold lxP at k; omega
      · rcases h2 with k | k
        · subst k; omega
        · unfold lxP at k; omega
    have := Int.mul_neg_of_pos_of_neg (show 0 < b.2 - a.2 by omega) (show crP p c q < 0 by omega)
    have := mulnnH w2.2 ga
    have := mulnnH w2.1 gb
    omega
def opp (p b : Int × Int) : Int × Int := (2 * p.1 - b.1, 2 * p.2 - b.2)
theorem crP_opp (p b q : Int × Int) : crP p (opp p b) q = -crP p b q := by unfold crP crs opp; grind
/-- seen from outside, all points are between the two lines of sight -/
theorem seen_all {ps : List (Int × Int)} {p : Int × Int} (h1 : 1 ≤ ps.length) (hx : hasH (hullF ps) p.1 p.2 = false) {q : Int × Int} (hq : q ∈ ps) :
    0 ≤ crP p (seA (hullF ps) p ((hullF ps).length - 1)) q ∧ crP p (seB (hullF ps) p ((hullF ps).length - 1)) q ≤ 0 := by
  have hl := hull_len h1
  rcases Nat.lt_or_ge (hullF ps).length 3 with c | c
  · rcases Nat.lt_or_ge (hullF ps).length 2 with g | g
    · have e : (hullF ps).length = 1 := by omega
      rw [hull_one e hq, show (hullF ps).length - 1 = 0 by omega, seA, seB, crP_self]
      exact ⟨Int.le_refl _, Int.le_refl _⟩
    · have e : (hullF ps).length = 2 := by omega
      obtain ⟨t1, t2, t3, t4⟩ := hull_two e hq
      rw [show (hullF ps).length - 1 = 0 + 1 by omega]
      generalize (hullF ps) = H at *
      have sA : 0 ≤ crP p (seA H p (0 + 1)) (H.getD 0 (0, 0)) ∧ 0 ≤ crP p (seA H p (0 + 1)) (H.getD 1 (0, 0)) := by
        rw [seA, seA]
        have fl := crP_flip p (H.getD 0 (0, 0)) (H.getD 1 (0, 0))
        split
        · rename_i k
          unfold stA at k
          simp only [Bool.or_eq_true, Bool.and_eq_true, decide_eq_true_eq, Nat.add_zero] at k
          rw [Nat.add_zero, crP_self]; omega
        · rename_i k
          unfold stA at k
          simp only [Bool.or_eq_true, Bool.and_eq_true, decide_eq_true_eq, Nat.add_zero, not_or] at k
          rw [crP_self]; omega
      have sB : crP p (seB H p (0 + 1)) (H.getD 0 (0, 0)) ≤ 0 ∧ crP p (seB H p (0 + 1)) (H.getD 1 (0, 0)) ≤ 0 := by
        rw [seB, seB]
        have fl := crP_flip p (H.getD 0 (0, 0)) (H.getD 1 (0, 0))
        split
        · rename_i k
          unfold stB at k
          simp only [Bool.or_eq_true, Bool.and_eq_true, decide_eq_true_eq, Nat.add_zero] at k
          rw [Nat.add_zero, crP_self]; omega
        · rename_i k
          unfold stB at k
          simp only [Bool.or_eq_true, Bool.and_eq_true, decide_eq_true_eq, Nat.add_zero, not_or] at k
          rw [crP_self]; omega
      refine ⟨side_between t1 t2 t3 t4 sA.1 sA.2, ?_⟩
      have := side_between (p := p) (c := opp p (seB H p (0 + 1))) t1 t2 t3 t4 (by rw [crP_opp]; omega) (by rw [crP_opp]; omega)
      rw [crP_opp] at this; omega
  · rw [hasH_3 c] at hx
    obtain ⟨j, hj, hjx⟩ := hasL_ex (hullF ps).length 0 (by omega) hx
    have hf : ∀ r ∈ hullF ps, 0 < (((hullF ps).getD ((j + 1) % (hullF ps).length) (0, 0)).1 - ((hullF ps).getD j (0, 0)).1, ((hullF ps).getD ((j + 1) % (hullF ps).length) (0, 0)).2 - ((hullF ps).getD j (0, 0)).2).1 * (r.2 - p.2) - (((hullF ps).getD ((j + 1) % (hullF ps).length) (0, 0)).1 - ((hullF ps).getD j (0, 0)).1, ((hullF ps).getD ((j + 1) % (hullF ps).length) (0, 0)).2 - ((hullF ps).getD j (0, 0)).2).2 * (r.1 - p.1) := fun r hr => by
      have e1 := hull_edge (ps := ps) (by omega) (i := j) hj (hull_sub hr)
      unfold crP at e1
      generalize (hullF ps).getD ((j + 1) % (hullF ps).length) (0, 0) = V at *
      generalize (hullF ps).getD j (0, 0) = M at *
      have e : (V.1 - M.1) * (r.2 - p.2) - (V.2 - M.2) * (r.1 - p.1) = crs M.1 M.2 V.1 V.2 r.1 r.2 - crs M.1 M.2 V.1 V.2 p.1 p.2 := by unfold crs; grind
      simp only []
      omega
    refine ⟨half_all (by omega) (fun i hi => seA_ok hf (by omega) i (by omega)) hq, ?_⟩
    have := half_all (ps := ps) (p := p) (a := opp p (seB (hullF ps) p ((hullF ps).length - 1))) (by omega) (fun i hi => by rw [crP_opp]; have := seB_ok hf (k := (hullF ps).length - 1) (by omega) i (by omega); omega) hq
    rw [crP_opp] at this; omega
end Go.Proofs.Ytomnkdlfmjdckaa.Am.Sp

set_option linter.unusedVariables false
set_option linter.unusedSimpArgs false
namespace Go.Proofs.Ytomnkdlfmjdckaa.Am.Sp
open Go
/-! How long both chains are together -/
theorem stk_take (l : List (Int × Int)) : ∀ i, i ≤ l.length → stk l i = stk (l.take i) i
  | i, hi => by
    have key : ∀ k, k ≤ i → stk l k = stk (l.take i) k := by
      intro k
      induction k with
      | zero => intro _; rfl
      | succ k ih =>
        intro hk
        have e : (l.take i).getD k (0, 0) = l.getD k (0, 0) := by
          rw [List.getD_eq_getElem?_getD, List.getElem?_take, if_pos (by omega), List.getD_eq_getElem?_getD]
        rw [stk, stk, ih (by omega), e]
    exact key i (Nat.le_refl _)
theorem nodup_sub_len : ∀ {l m : List (Int × Int)}, l.Nodup → (∀ p ∈ l, p ∈ m) → l.length ≤ m.length
  | [], m, _, _ => Nat.zero_le _
  | a :: r, m, h, hs => by
    have hn := List.nodup_cons.1 h
    have ha := hs a (by simp)
    have := nodup_sub_len (l := r) (m := m.erase a) hn.2 (fun p hp => (List.mem_erase_of_ne (fun (e : p = a) => hn.1 (by rw [← e]; exact hp))).2 (hs p (List.mem_cons_of_mem _ hp)))
    rw [List.length_erase_of_mem ha] at this
    have : 1 ≤ m.length := List.length_pos_of_mem ha
    simp only [List.length_cons]; omega
theorem Ds.pair : ∀ {C : List (Int × Int)}, Ds C → C.Pairwise (fun a b => lxP b a)
  | [], _ => .nil
  | [a], _ => List.pairwise_singleton _ _
  | b :: a :: r, h => by
    have ih := Ds.pair h.2
    refine List.pairwise_cons.2 ⟨fun x hx => ?_, ih⟩
    rcases List.mem_cons.1 hx with k | k
    · subst k; exact h.1
    · exact ((List.pairwise_cons.1 ih).1 x k).trans h.1
theorem Ds.nodup {C : List (Int × Int)} (h : Ds C) : C.Nodup := h.pair.imp (fun {a b} k e => by subst e; exact k.irr)
/-- the upper chain of the last i points -/
theorem up_chn {s : List (Int × Int)} (h : s.Pairwise lxP) {i : Nat} (h1 : 1 ≤ i) (hi : i ≤ s.length) : Chn ((s.reverse.take i).map negP) ((stk s.reverse i).map negP) := by
  have hl : (s.reverse.take i).length = i := by rw [List.length_take, List.length_reverse]; omega
  rw [stk_take s.reverse i (by rw [List.length_reverse]; exact hi)]
  have e2 : stk (s.reverse.take i) i = chS [] (s.reverse.take i) := by
    have := stk_all (s.reverse.take i)
    rw [hl] at this; exact this
  rw [e2]
  have hr : ((s.reverse.take i).map negP).Pairwise lxP := by
    rw [List.pairwise_map]
    exact ((List.pairwise_reverse.2 (h.imp (fun k => lxP_neg.2 k))).sublist (List.take_sublist _ _))
  cases hx : s.reverse.take i with
  | nil => rw [hx] at hl; simp at hl; omega
  | cons b r =>
    rw [hx, List.map_cons] at hr
    have := chn_of hr
    rw [show chS ([] : List (Int × Int)) (negP b :: r.map negP) = (chS [] (b :: r)).map negP from chS_map (b :: r) []] at this
    exact this
/-- a corner of the lower chain is none of the upper chain of the points behind it, but for its ends -/
theorem low_up {s : List (Int × Int)} (h : s.Pairwise lxP) (h2 : 1 ≤ s.length) {i j : Nat} (h1 : 1 ≤ i) (hi : i ≤ s.length) (hj : j + 2 < (stk s.reverse i).length) : (stk s.reverse i).getD (j + 1) (0, 0) ∉ stk s s.length := by
  intro hm
  have cu := up_chn h h1 hi
  have cl := (hul_of h h2).low
  have hmem : ∀ q, q < (stk s.reverse i).length → (stk s.reverse i).getD q (0, 0) ∈ s := fun q hq => by
    have := cu.sub (negP ((stk s.reverse i).getD q (0, 0))) (List.mem_map.2 ⟨_, mem_getD hq, rfl⟩)
    obtain ⟨z, hz, e⟩ := List.mem_map.1 this
    rw [← negP_inj e]
    exact List.mem_reverse.1 (List.mem_of_mem_take hz)
  have t := cu.tr.at (j := j) (by simpa using hj)
  have d1 := cu.ds.at (j := j) (by simp; omega)
  have d2 := cu.ds.at (j := j + 1) (by simp; omega)
  rw [getD_map_neg, getD_map_neg, getD_map_neg, crP_neg] at t
  rw [getD_map_neg, getD_map_neg, lxP_neg] at d1 d2
  -- a < p < c, p above
  have ma := hmem j (by omega)
  have mc := hmem (j + 2) (by omega)
  generalize (stk s.reverse i).getD (j + 2) (0, 0) = c at *
  generalize (stk s.reverse i).getD (j + 1) (0, 0) = p at *
  generalize (stk s.reverse i).getD j (0, 0) = a at *
  obtain ⟨k, hk, e⟩ := List.mem_iff_getElem.1 hm
  have hkp : (stk s s.length).getD k (0, 0) = p := by rw [getD_lt hk, e]
  have hb := (hul_of h h2).bot
  have hk1 : k + 1 < (stk s s.length).length := by
    rcases Nat.lt_or_ge (k + 1) (stk s s.length).length with g | g
    · exact g
    · have ek : k = (stk s s.length).length - 1 := by omega
      have := hb.2 a ma
      rw [← ek, hkp] at this
      rcases this with q | q
      · subst q; exact d1.irr.elim
      · exact (d1.trans q).irr.elim
  have l1 := cl.lf.at hk1 a ma
  have l2 := cl.lf.at hk1 c mc
  have dd := cl.ds.at hk1
  rw [hkp] at l1 l2 dd
  have := left_behind dd d2 (.inl d1) l2 l1
  have e2 : crP c p a = -crP p c a := by unfold crP crs; grind
  omega
theorem both_len {s : List (Int × Int)} (h : s.Pairwise lxP) (h2 : 1 ≤ s.length) {i : Nat} (hi : i ≤ s.length) : (chO s).length + (stk s.reverse i).length ≤ s.length + 1 := by
  have hl := chO_len (l := s)
  have hp := (hul_of h h2).posL
  have hL : (stk s s.length).length ≤ s.length := stk_len s s.length
  rcases Nat.lt_or_ge (stk s.reverse i).length 3 with c | c
  · omega
  · have h1 : 1 ≤ i := by
      rcases Nat.eq_zero_or_pos i with z | z
      · subst z; simp [stk] at c
      · exact z
    have cu := up_chn h h1 hi
    have nu : (stk s.reverse i).Nodup := by
      have := cu.ds.nodup
      exact (List.pairwise_map.1 this).imp (fun {x y} k e => k (congrArg negP e))
    have nl := (hul_of h h2).low.ds.nodup
    -- the inner points of the upper chain, and the lower chain
    have key := nodup_sub_len (l := ((stk s.reverse i).drop 1).dropLast ++ stk s s.length) (m := s) ?_ ?_
    · rw [List.length_append, List.length_dropLast, List.length_drop] at key
      omega
    · refine List.nodup_append.2 ⟨?_, nl, fun a ha b hb e => ?_⟩
      · exact ((nu.sublist (List.drop_sublist _ _)).sublist (List.dropLast_sublist _))
      · subst e
        obtain ⟨k, hk, e⟩ := List.mem_iff_getElem.1 ha
        rw [List.length_dropLast, List.length_drop] at hk
        rw [List.getElem_dropLast, List.getElem_drop] at e
        refine low_up h h2 h1 hi (j := k) (by omega) ?_
        rw [getD_lt (by omega)]
        have : (stk s.reverse i)[k + 1]'(by omega) = a := by rw [← e]; congr 1; omega
        rw [this]; exact hb
    · intro p hp'
      rcases List.mem_append.1 hp' with q | q
      · have hm := List.mem_of_mem_drop (List.dropLast_subset _ q)
        exact List.mem_reverse.1 (stk_mem (by rw [List.length_reverse]; exact hi) hm)
      · exact stk_mem (Nat.le_refl _) q
theorem both_chO {s : List (Int × Int)} (h : s.Pairwise lxP) (h2 : 1 ≤ s.length) : (chO s).length + (chO s.reverse).length ≤ s.length := by
  have := both_len h h2 (i := s.length) (Nat.le_refl _)
  have e := chO_len (l := s.reverse)
  rw [List.length_reverse] at e
  have : 1 ≤ (stk s.reverse s.length).length := stk_pos h2
  omega
end Go.Proofs.Ytomnkdlfmjdckaa.Am.Sp

