import Derived.Test.YtomnkdlfmjdckaaHu15
import Derived.Test.YtomnkdlfmjdckaaRs4
set_option linter.unusedVariables false
set_option linter.unusedSimpArgs false
namespace Go.Proofs.Ytomnkdlfmjdckaa.Am.Sp
open Go
/-! Rings and hulls: what is outside the hull is outside the ring; what is in the hull is in the ring of its corners -/
theorem off_side {p d : Int × Int} {a b : Int × Int} (fa : 0 < Ahd d p a) (fb : 0 < Ahd d p b) : onb a.1 a.2 b.1 b.2 p.1 p.2 = false := by
  cases h : onb a.1 a.2 b.1 b.2 p.1 p.2
  · rfl
  · exfalso
    obtain ⟨h0, h1⟩ := (onb_iff ..).1 h
    have c0 : crP p a b = 0 := by rw [← crP_rot, ← crP_rot] ; exact h0
    have e1 : Ahd d p b * (a.1 - p.1) - Ahd d p a * (b.1 - p.1) = d.1 * crP p a b := by unfold Ahd crP crs; grind
    have e2 : Ahd d p b * (a.2 - p.2) - Ahd d p a * (b.2 - p.2) = d.2 * crP p a b := by unfold Ahd crP crs; grind
    rw [c0, Int.mul_zero] at e1 e2
    have s : Ahd d p b * ((a.1 - p.1) * (a.1 - p.1) + (a.2 - p.2) * (a.2 - p.2)) = Ahd d p a * dot p.1 p.2 a.1 a.2 b.1 b.2 := by
      unfold dot
      generalize Ahd d p b = B at *
      generalize Ahd d p a = A at *
      have k1 : B * (a.1 - p.1) = A * (b.1 - p.1) := by omega
      have k2 : B * (a.2 - p.2) = A * (b.2 - p.2) := by omega
      calc B * ((a.1 - p.1) * (a.1 - p.1) + (a.2 - p.2) * (a.2 - p.2)) = (B * (a.1 - p.1)) * (a.1 - p.1) + (B * (a.2 - p.2)) * (a.2 - p.2) := by grind
        _ = (A * (b.1 - p.1)) * (a.1 - p.1) + (A * (b.2 - p.2)) * (a.2 - p.2) := by rw [k1, k2]
        _ = _ := by grind
    have n1 := Int.mul_nonpos_of_nonneg_of_nonpos (Int.le_of_lt fa) h1
    have s1 := sqr_nonneg (a.1 - p.1)
    have s2 := sqr_nonneg (a.2 - p.2)
    have z : ¬ 0 < (a.1 - p.1) * (a.1 - p.1) + (a.2 - p.2) * (a.2 - p.2) := fun g => by
      have := Int.mul_pos fb g; omega
    have z1 : (a.1 - p.1) * (a.1 - p.1) = 0 := by omega
    have z2 : (a.2 - p.2) * (a.2 - p.2) = 0 := by omega
    have y1 : a.1 - p.1 = 0 := by rcases Int.mul_eq_zero.1 z1 with k | k <;> exact k
    have y2 : a.2 - p.2 = 0 := by rcases Int.mul_eq_zero.1 z2 with k | k <;> exact k
    unfold Ahd at fa; rw [y1, y2] at fa; simp at fa
theorem on_side {p d : Int × Int} : ∀ (l : List (Int × Int)) (a : Int × Int), 0 < Ahd d p a → (∀ q ∈ l, 0 < Ahd d p q) → onany p a l = false
  | [], a, _, _ => rfl
  | b :: r, a, fa, h => by
    rw [onany, off_side fa (h b (by simp)), Bool.false_or]
    exact on_side r b (h b (by simp)) (fun q hq => h q (List.mem_cons_of_mem _ hq))
def lowB (p q : Int × Int) : Bool := decide (q.2 < p.2)
theorem cR_iff (p a b : Int × Int) : cR p a b = true ↔ (b.2 < a.2 ∧ (b.2 < p.2 ∧ p.2 ≤ a.2) ∧ crP p a b < 0) ∨ (a.2 ≤ b.2 ∧ (a.2 < p.2 ∧ p.2 ≤ b.2) ∧ 0 < crP p a b) := by
  unfold cR
  rw [crR_iff]
  have e1 : (a.2 - p.2) * (b.1 - p.1) - (a.1 - p.1) * (b.2 - p.2) = -crP p a b := by unfold crP crs; grind
  have e2 : (a.1 - p.1) * (b.2 - p.2) - (a.2 - p.2) * (b.1 - p.1) = crP p a b := by unfold crP crs; grind
  rw [e1, e2]
  omega
theorem cR_side {p d a b : Int × Int} (fa : 0 < Ahd d p a) (fb : 0 < Ahd d p b) : cR p a b = if d.2 < 0 then (lowB p a != lowB p b) else false := by
  rw [Bool.eq_iff_iff, cR_iff]
  have e : -d.2 * crP p a b = (b.2 - p.2) * Ahd d p a - (a.2 - p.2) * Ahd d p b := by unfold crP crs Ahd; grind
  generalize crP p a b = c at *
  split
  · rename_i hd
    unfold lowB
    have up : a.2 < p.2 → p.2 ≤ b.2 → 0 < c := fun h1 h2 => by
      have n1 := mulnnH (show 0 ≤ b.2 - p.2 by omega) (Int.le_of_lt fa)
      have n2 := Int.mul_neg_of_neg_of_pos (show a.2 - p.2 < 0 by omega) fb
      apply Classical.byContradiction; intro hn
      have := Int.mul_nonpos_of_nonneg_of_nonpos (show 0 ≤ -d.2 by omega) (show c ≤ 0 by omega)
      omega
    have dn : b.2 < p.2 → p.2 ≤ a.2 → c < 0 := fun h1 h2 => by
      have n1 := mulnnH (show 0 ≤ a.2 - p.2 by omega) (Int.le_of_lt fb)
      have n2 := Int.mul_neg_of_neg_of_pos (show b.2 - p.2 < 0 by omega) fa
      apply Classical.byContradiction; intro hn
      have := mulnnH (show 0 ≤ -d.2 by omega) (show 0 ≤ c by omega)
      omega
    by_cases h1 : a.2 < p.2 <;> by_cases h2 : b.2 < p.2 <;> simp only [h1, h2, decide_true, decide_false] <;> simp
    · omega
    · have := up h1 (by omega); omega
    · have := dn h2 (by omega); omega
  · rename_i hd
    simp only [Bool.false_eq_true, iff_false]
    rintro (⟨h1, ⟨h2, h3⟩, h4⟩ | ⟨h1, ⟨h2, h3⟩, h4⟩)
    · have n1 := mulnnH (show 0 ≤ a.2 - p.2 by omega) (Int.le_of_lt fb)
      have n2 := Int.mul_neg_of_neg_of_pos (show b.2 - p.2 < 0 by omega) fa
      have := mulnnH (show 0 ≤ d.2 by omega) (show 0 ≤ -c by omega)
      have e3 : -d.2 * c = d.2 * -c := by grind
      omega
    · have n1 := mulnnH (show 0 ≤ b.2 - p.2 by omega) (Int.le_of_lt fa)
      have n2 := Int.mul_neg_of_neg_of_pos (show a.2 - p.2 < 0 by omega) fb
      have := mulnnH (show 0 ≤ d.2 by omega) (show 0 ≤ c by omega)
      have e3 : -d.2 * c = -(d.2 * c) := by grind
      omega
theorem xor_side {p d : Int × Int} : ∀ (l : List (Int × Int)) (a : Int × Int), 0 < Ahd d p a → (∀ q ∈ l, 0 < Ahd d p q) → xorp (cR p) a l = if d.2 < 0 then (lowB p a != lowB p (lastp a l)) else false
  | [], a, _, _ => by simp [xorp, lastp]
  | b :: r, a, fa, h => by
    have ih := xor_side r b (h b (by simp)) (fun q hq => h q (List.mem_cons_of_mem _ hq))
    rw [xorp, lastp, ih, cR_side fa (h b (by simp))]
    split
    · cases lowB p a <;> cases lowB p b <;> cases lowB p (lastp b r) <;> rfl
    · rfl
/-- all corners on one side of a line through the point: it is outside -/
theorem has_side {ps : List (Int × Int)} {p d : Int × Int} (h1 : 1 ≤ ps.length) (hs : ps.map limp = ps) (hF : ∀ q ∈ ps, 0 < Ahd d p q) : hasF ps p.1 p.2 0 (-1) = -1 := by
  rw [hasv_lim h1 hs]
  have h0 : ps.getD 0 (0, 0) ∈ ps := mem_getD h1
  have hall : ∀ q ∈ ps.drop 1 ++ [ps.getD 0 (0, 0)], 0 < Ahd d p q := fun q hq => by
    rcases List.mem_append.1 hq with k | k
    · exact hF q (List.mem_of_mem_drop k)
    · rw [List.mem_singleton.1 k]; exact hF _ h0
  unfold hasv
  rw [on_side _ _ (hF _ h0) hall, xor_side _ _ (hF _ h0) hall, lastp_snoc]
  simp
/-- what is outside the hull is outside the ring -/
theorem has_hull_out {ps : List (Int × Int)} {p : Int × Int} {m : Int} (hm : 0 ≤ m ∧ m ≤ 1048576) (hf : Few m ps) (h1 : 1 ≤ ps.length) (hx : hasH (hullF ps) p.1 p.2 = false) : hasF ps p.1 p.2 0 (-1) = -1 ∧ hasF (hullF ps) p.1 p.2 0 (-1) = -1 := by
  obtain ⟨d, hF⟩ := dir_ex h1 hx
  have hfh : Few m (hullF ps) := few_sub hm.1 hf (fun q hq => hull_sub hq)
  refine ⟨has_side (d := d) h1 (map_limp hm.2 hf) (fun q hq => ?_), has_side (d := d) (hull_len h1).1 (map_limp hm.2 hfh) hF⟩
  have k := aff_all (u := -d.2) (v := d.1) (w := d.2 * p.1 - d.1 * p.2 - 1) h1 (fun i hi => by
    have := hF _ (mem_getD hi)
    generalize (hullF ps).getD i (0, 0) = z at *
    have e : Ahd d p z = -d.2 * z.1 + d.1 * z.2 + (d.2 * p.1 - d.1 * p.2) := by unfold Ahd; grind
    omega) hq
  have e : Ahd d p q = -d.2 * q.1 + d.1 * q.2 + (d.2 * p.1 - d.1 * p.2) := by unfold Ahd; grind
  omega
end Go.Proofs.Ytomnkdlfmjdckaa.Am.Sp

set_option linter.unusedVariables false
set_option linter.unusedSimpArgs false
namespace Go.Proofs.Ytomnkdlfmjdckaa.Am.Sp
open Go
/-! What is in the hull is in the ring of its corners, or on it -/
theorem edge_seg {z a b c p : Int × Int} (t1 : 0 < crP z a b) (t2 : 0 < crP a b c) (e1 : 0 ≤ crP z a p) (e3 : 0 ≤ crP b c p) (e0 : crP a b p = 0) : onb a.1 a.2 b.1 b.2 p.1 p.2 = true := by
  refine (onb_iff ..).2 ⟨e0, ?_⟩
  have k : crP z a b * crP b c p = (crP z a b - crP z a p) * crP a b c + crP a b p * (crP z a c - crP z a b) := by unfold crP crs; grind
  rw [e0, Int.zero_mul, Int.add_zero] at k
  have l1 : crP z a b * (p.1 - a.1) = crP z a p * (b.1 - a.1) - crP a b p * (a.1 - z.1) := by unfold crP crs; grind
  have l2 : crP z a b * (p.2 - a.2) = crP z a p * (b.2 - a.2) - crP a b p * (a.2 - z.2) := by unfold crP crs; grind
  rw [e0, Int.zero_mul, Int.sub_zero] at l1 l2
  have n1 := mulnnH (Int.le_of_lt t1) e3
  have le : crP z a p ≤ crP z a b := by
    apply Classical.byContradiction; intro hn
    have := Int.mul_neg_of_neg_of_pos (show crP z a b - crP z a p < 0 by omega) t2
    omega
  generalize crP z a b = Z at *
  generalize crP z a p = K at *
  have d : Z * Z * dot p.1 p.2 a.1 a.2 b.1 b.2 = -(K * (Z - K) * ((b.1 - a.1) * (b.1 - a.1) + (b.2 - a.2) * (b.2 - a.2))) := by
    have m1 : Z * (a.1 - p.1) = -(K * (b.1 - a.1)) := by grind
    have m2 : Z * (a.2 - p.2) = -(K * (b.2 - a.2)) := by grind
    have m3 : Z * (b.1 - p.1) = (Z - K) * (b.1 - a.1) := by grind
    have m4 : Z * (b.2 - p.2) = (Z - K) * (b.2 - a.2) := by grind
    unfold dot
    calc Z * Z * ((a.1 - p.1) * (b.1 - p.1) + (a.2 - p.2) * (b.2 - p.2)) = (Z * (a.1 - p.1)) * (Z * (b.1 - p.1)) + (Z * (a.2 - p.2)) * (Z * (b.2 - p.2)) := by grind
      _ = -(K * (b.1 - a.1)) * ((Z - K) * (b.1 - a.1)) + -(K * (b.2 - a.2)) * ((Z - K) * (b.2 - a.2)) := by rw [m1, m2, m3, m4]
      _ = _ := by grind
  have s1 := sqr_nonneg (b.1 - a.1)
  have s2 := sqr_nonneg (b.2 - a.2)
  have n2 := mulnnH (mulnnH e1 (show 0 ≤ Z - K by omega)) (show 0 ≤ (b.1 - a.1) * (b.1 - a.1) + (b.2 - a.2) * (b.2 - a.2) by omega)
  have zz := Int.mul_pos t1 t1
  apply Classical.byContradiction; intro hn
  have := Int.mul_pos zz (show 0 < dot p.1 p.2 a.1 a.2 b.1 b.2 by omega)
  omega
/-- what is not negative at the corners is not negative in the hull -/
theorem hull_aff {ps : List (Int × Int)} {p : Int × Int} {u v w : Int} (h3 : 2 < (hullF ps).length) (hx : hasH (hullF ps) p.1 p.2 = true) (hc : ∀ i, i < (hullF ps).length → 0 ≤ u * ((hullF ps).getD i (0, 0)).1 + v * ((hullF ps).getD i (0, 0)).2 + w) : 0 ≤ u * p.1 + v * p.2 + w := by
  obtain ⟨i, h2, hi, f1, f2, f3⟩ := fan_no h3 hx
  have t := fan_left (ps := ps) h3 (j := i - 1) (by omega) (by omega)
  rw [show i - 1 + 1 = i by omega] at t
  have g0 := hc 0 (by omega)
  have g1 := hc (i - 1) (by omega)
  have g2 := hc i hi
  generalize (hullF ps).getD i (0, 0) = C at *
  generalize (hullF ps).getD (i - 1) (0, 0) = B at *
  generalize (hullF ps).getD 0 (0, 0) = A at *
  have e : crP A B C * (u * p.1 + v * p.2 + w) = (u * A.1 + v * A.2 + w) * crP B C p + (u * B.1 + v * B.2 + w) * crP C A p + (u * C.1 + v * C.2 + w) * crP A B p := by unfold crP crs; grind
  have n1 := mulnnH g0 f2
  have n2 := mulnnH g1 f3
  have n3 := mulnnH g2 f1
  apply Classical.byContradiction; intro hn
  have := Int.mul_neg_of_pos_of_neg t (show u * p.1 + v * p.2 + w < 0 by omega)
  omega
theorem onany_at {p : Int × Int} : ∀ (l : List (Int × Int)) (a : Int × Int) (i : Nat), i < l.length → onany p a l = false → onb ((a :: l).getD i (0, 0)).1 ((a :: l).getD i (0, 0)).2 ((a :: l).getD (i + 1) (0, 0)).1 ((a :: l).getD (i + 1) (0, 0)).2 p.1 p.2 = false
  | [], _, _, h, _ => by simp at h
  | b :: r, a, 0, _, h => by rw [onany, Bool.or_eq_false_iff] at h; exact h.1
  | b :: r, a, i + 1, hi, h => by
    rw [onany, Bool.or_eq_false_iff] at h
    exact onany_at r b i (by simpa using hi) h.2
def upB (p a b : Int × Int) : Bool := decide (a.1 < p.1) && !decide (b.1 < p.1)
theorem xor_up {p : Int × Int} {f g : Int × Int → Int × Int → Bool} : ∀ (l : List (Int × Int)) (a : Int × Int), (∀ i, i < l.length → f ((a :: l).getD i (0, 0)) ((a :: l).getD (i + 1) (0, 0)) = g ((a :: l).getD i (0, 0)) ((a :: l).getD (i + 1) (0, 0))) → xorp f a l = xorp g a l
  | [], _, _ => rfl
  | b :: r, a, h => by
    rw [xorp, xorp, show f a b = g a b from h 0 (by simp), xor_up (p := p) r b (fun i hi => h (i + 1) (by simpa using hi))]
theorem cD_up {p a b : Int × Int} (h : 0 ≤ crP a b p) (ho : onb a.1 a.2 b.1 b.2 p.1 p.2 = false) : cD p a b = upB p a b := by
  rw [Bool.eq_iff_iff]
  unfold cD upB
  rw [crR_iff, Bool.and_eq_true, Bool.not_eq_true', decide_eq_true_eq, decide_eq_false_iff_not]
  have e1 : (a.1 - p.1) * -(b.2 - p.2) - -(a.2 - p.2) * (b.1 - p.1) = -crP a b p := by unfold crP crs; grind
  have e2 : -(a.2 - p.2) * (b.1 - p.1) - (a.1 - p.1) * -(b.2 - p.2) = crP a b p := by unfold crP crs; grind
  rw [e1, e2]
  constructor
  · rintro (⟨h1, ⟨h2, h3⟩, h4⟩ | ⟨h1, ⟨h2, h3⟩, h4⟩)
    · omega
    · omega
  · rintro ⟨h1, h2⟩
    right
    refine ⟨by omega, ⟨by omega, by omega⟩, ?_⟩
    apply Classical.byContradiction; intro hn
    have h0 : crP a b p = 0 := by omega
    have : onb a.1 a.2 b.1 b.2 p.1 p.2 = true := by
      refine (onb_iff ..).2 ⟨h0, ?_⟩
      -- between in the first coordinate, on the line: between
      have e : (b.1 - a.1) * dot p.1 p.2 a.1 a.2 b.1 b.2 = -((p.1 - a.1) * (b.1 - p.1) * (b.1 - a.1)) + (a.2 - p.2) * (b.2 - p.2) * (b.1 - a.1) := by unfold dot; grind
      have k1 : (b.1 - a.1) * (p.2 - a.2) = (b.2 - a.2) * (p.1 - a.1) := by
        have : crP a b p = (b.1 - a.1) * (p.2 - a.2) - (b.2 - a.2) * (p.1 - a.1) := crP_vec a b p
        omega
      have k2 : (b.1 - a.1) * (b.2 - p.2) = (b.2 - a.2) * (b.1 - p.1) := by grind
      have e3 : (b.1 - a.1) * (b.1 - a.1) * ((a.2 - p.2) * (b.2 - p.2)) = -((b.2 - a.2) * (b.2 - a.2) * ((p.1 - a.1) * (b.1 - p.1))) := by
        calc (b.1 - a.1) * (b.1 - a.1) * ((a.2 - p.2) * (b.2 - p.2)) = -(((b.1 - a.1) * (p.2 - a.2)) * ((b.1 - a.1) * (b.2 - p.2))) := by grind
          _ = -(((b.2 - a.2) * (p.1 - a.1)) * ((b.2 - a.2) * (b.1 - p.1))) := by rw [k1, k2]
          _ = _ := by grind
      have pp := mulnnH (show 0 ≤ p.1 - a.1 by omega) (show 0 ≤ b.1 - p.1 by omega)
      have qq := mulnnH (sqr_nonneg (b.2 - a.2)) pp
      have ww := Int.mul_pos (show 0 < b.1 - a.1 by omega) (show 0 < b.1 - a.1 by omega)
      have y : (a.2 - p.2) * (b.2 - p.2) ≤ 0 := by
        apply Classical.byContradiction; intro hn
        have := Int.mul_pos ww (show 0 < (a.2 - p.2) * (b.2 - p.2) by omega)
        omega
      have x : (a.1 - p.1) * (b.1 - p.1) = -((p.1 - a.1) * (b.1 - p.1)) := by grind
      unfold dot; omega
    rw [ho] at this; cases this
theorem xorp_app {f : Int × Int → Int × Int → Bool} (b : Int × Int) (r : List (Int × Int)) : ∀ (l : List (Int × Int)) (a : Int × Int), xorp f a (l ++ b :: r) = (xorp f a (l ++ [b]) != xorp f b r)
  | [], a => by simp [xorp]
  | c :: t, a => by
    rw [List.cons_append, List.cons_append, xorp, xorp, xorp_app b r t c]
    cases f a c <;> cases xorp f c (t ++ [b]) <;> cases xorp f b r <;> rfl
theorem up_mono {p : Int × Int} : ∀ (l : List (Int × Int)) (a : Int × Int), (a :: l).Pairwise lxP → xorp (upB p) a l = (decide (a.1 < p.1) && !decide ((lastp a l).1 < p.1))
  | [], a, _ => by by_cases c : a.1 < p.1 <;> simp [xorp, lastp, c]
  | b :: r, a, h => by
    obtain ⟨h1, h2⟩ := List.pairwise_cons.1 h
    rw [xorp, lastp, up_mono r b h2]
    have ab := h1 b (by simp)
    have bl : b.1 ≤ (lastp b r).1 := by
      obtain ⟨k1, _⟩ := List.pairwise_cons.1 h2
      cases r with
      | nil => exact Int.le_refl _
      | cons c t =>
        have : lastp b (c :: t) ∈ c :: t := by
          have g : ∀ (t : List (Int × Int)) (c : Int × Int), lastp c t ∈ c :: t := fun t => by
            induction t with
            | nil => intro c; simp [lastp]
            | cons x y ih => intro c; exact List.mem_cons_of_mem _ (ih x)
          exact g t c
        have := k1 _ this
        unfold lxP at this; omega
    have ab1 : a.1 ≤ b.1 := by unfold lxP at ab; omega
    unfold upB
    generalize (lastp b r).1 = z at *
    by_cases c1 : a.1 < p.1 <;> by_cases c2 : b.1 < p.1 <;> by_cases c3 : z < p.1 <;> simp only [c1, c2, c3, decide_true, decide_false] <;> first | rfl | omega
theorem dn_mono {p : Int × Int} : ∀ (l : List (Int × Int)) (a : Int × Int), (a :: l).Pairwise (fun a b => lxP b a) → xorp (upB p) a l = false
  | [], a, _ => rfl
  | b :: r, a, h => by
    obtain ⟨h1, h2⟩ := List.pairwise_cons.1 h
    rw [xorp, dn_mono r b h2]
    have ab := h1 b (by simp)
    have ab1 : b.1 ≤ a.1 := by unfold lxP at ab; omega
    unfold upB
    by_cases c1 : a.1 < p.1 <;> by_cases c2 : b.1 < p.1 <;> simp only [c1, c2, decide_true, decide_false] <;> first | rfl | omega
/-- the closed line of the corners: up, and down again -/
theorem hull_line {ps : List (Int × Int)} (h3 : 2 < (hullF ps).length) : ∃ A B : List (Int × Int), ∃ t : Int × Int, (hullF ps).drop 1 ++ [(hullF ps).getD 0 (0, 0)] = A ++ t :: B ∧ ((hullF ps).getD 0 (0, 0) :: (A ++ [t])).Pairwise lxP ∧ (t :: B).Pairwise (fun a b => lxP b a) ∧ (∀ q ∈ ps, q.1 ≤ t.1) := by
  have g := srd_two (ps := ps) (by omega)
  obtain ⟨q, q2⟩ := hul_srd g
  have eh := hullF_two g
  have hp := q.posU
  have ut := q.utop
  have ub := q.ubot
  have hpl : (stk (srd ps) (srd ps).length).Pairwise (fun a b => lxP b a) := q.low.ds.pair
  have hpu : (stk (srd ps).reverse (srd ps).reverse.length).Pairwise lxP := by
    have k := q.up.ds.pair
    rw [List.pairwise_map] at k
    exact k.imp (fun {a b} h => lxP_neg.1 h)
  have htop := q.top.2
  rw [eh]
  generalize stk (srd ps) (srd ps).length = L at *
  generalize stk (srd ps).reverse (srd ps).reverse.length = U at *
  cases L with
  | nil => simp at q2
  | cons t L' =>
    cases U with
    | nil => simp at hp
    | cons b U' =>
      have rl : (t :: L').reverse.Pairwise lxP := List.pairwise_reverse.2 hpl
      have ru : (b :: U').reverse.Pairwise (fun a b => lxP b a) := List.pairwise_reverse.2 hpu
      rw [List.reverse_cons] at rl ru
      unfold ring2
      simp only [List.tail_cons]
      have hb : b = (t :: L').getD ((t :: L').length - 1) (0, 0) := ut
      have ht : (b :: U').getD ((b :: U').length - 1) (0, 0) = t := ub
      -- both chains, turned round
      rcases hL : L'.reverse with _ | ⟨c, A⟩
      · have := congrArg List.length hL
        simp at this q2
        subst this; simp at q2
      · have hc : c = b := by
          have e1 : (t :: L').reverse = c :: (A ++ [t]) := by rw [List.reverse_cons, hL]; rfl
          have e2 : (t :: L').reverse.getD 0 (0, 0) = c := by rw [e1]; rfl
          have e3 : (t :: L').reverse.getD 0 (0, 0) = (t :: L').getD ((t :: L').length - 1) (0, 0) := by
            rw [getD_lt (by simp), getD_lt (by simp), List.getElem_reverse]; simp
          rw [← e2, e3, hb]
        rw [hL] at rl
        rcases hU : U'.reverse ++ [b] with _ | ⟨t', B⟩
        · simp at hU
        · have ht' : t' = t := by
            have e2 : (b :: U').reverse.getD 0 (0, 0) = t' := by rw [List.reverse_cons, hU]; rfl
            have e3 : (b :: U').reverse.getD 0 (0, 0) = (b :: U').getD ((b :: U').length - 1) (0, 0) := by
              rw [getD_lt (by simp), getD_lt (by simp), List.getElem_reverse]; simp
            rw [← e2, e3, ht]
          rw [hU] at ru
          refine ⟨A, B, t, ?_, ?_, ?_, fun z hz => ?_⟩
          · show (c :: (A ++ U'.reverse)).drop 1 ++ [c] = A ++ t :: B
            rw [List.drop_one, List.tail_cons, List.append_assoc, hc, hU, ht']
          · exact rl
          · rw [← ht']; exact ru
          · have := htop z (srd_mem.2 hz)
            rcases this with k | k
            · rw [k]; exact Int.le_refl _
            · have k2 : lxP z t := k
              unfold lxP at k2; omega
theorem closed_at {h : List (Int × Int)} (h1 : 1 ≤ h.length) {i : Nat} (hi : i < h.length) : (h.getD 0 (0, 0) :: (h.drop 1 ++ [h.getD 0 (0, 0)])).getD i (0, 0) = h.getD i (0, 0) ∧ (h.getD 0 (0, 0) :: (h.drop 1 ++ [h.getD 0 (0, 0)])).getD (i + 1) (0, 0) = h.getD ((i + 1) % h.length) (0, 0) := by
  cases h with
  | nil => simp at h1
  | cons a t =>
    have e : (a :: t).getD 0 (0, 0) :: ((a :: t).drop 1 ++ [(a :: t).getD 0 (0, 0)]) = (a :: t) ++ [a] := rfl
    rw [e]
    constructor
    · rw [getD_lt (by simp; simp at hi; omega), getD_lt hi, List.getElem_append_left hi]
    · by_cases c : i + 1 < (a :: t).length
      · rw [Nat.mod_eq_of_lt c, getD_lt (by simp; simp at c; omega), getD_lt c, List.getElem_append_left c]
      · have e2 : i + 1 = (a :: t).length := by omega
        rw [e2, Nat.mod_self, getD_lt (by simp), List.getElem_append_right (Nat.le_refl _)]
        simp
/-- what is in the hull is in the ring of its corners, or on it -/
theorem has_hull_in {ps : List (Int × Int)} {p : Int × Int} {m : Int} (hm : 0 ≤ m ∧ m ≤ 1048576) (hf : Few m ps) (h3 : 2 < (hullF ps).length) (hx : hasH (hullF ps) p.1 p.2 = true) : 0 ≤ hasF (hullF ps) p.1 p.2 0 (-1) := by
  have hfh : Few m (hullF ps) := few_sub hm.1 hf (fun q hq => hull_sub hq)
  rw [hasv_lim (by omega) (map_limp hm.2 hfh)]
  unfold hasv
  split
  · decide
  · rename_i hoff
    have hoff : onany p ((hullF ps).getD 0 (0, 0)) ((hullF ps).drop 1 ++ [(hullF ps).getD 0 (0, 0)]) = false := by simpa using hoff
    have hin : ∀ {i}, i < (hullF ps).length → (hullF ps).getD i (0, 0) ∈ ps := fun hi => hull_sub (mem_getD hi)
    have h1 : 1 ≤ ps.length := List.length_pos_of_mem (hin (i := 0) (by omega))
    have hlen : ((hullF ps).drop 1 ++ [(hullF ps).getD 0 (0, 0)]).length = (hullF ps).length := by simp; omega
    have hx3 := hx
    rw [hasH_3 (by omega)] at hx3
    have hall : ∀ i, i < (hullF ps).length → 0 ≤ crP ((hullF ps).getD i (0, 0)) ((hullF ps).getD ((i + 1) % (hullF ps).length) (0, 0)) p := fun i hi => hasL_get (hullF ps).length 0 (by omega) hx3 i (by omega) hi
    have hof : ∀ i, i < (hullF ps).length → onb ((hullF ps).getD i (0, 0)).1 ((hullF ps).getD i (0, 0)).2 ((hullF ps).getD ((i + 1) % (hullF ps).length) (0, 0)).1 ((hullF ps).getD ((i + 1) % (hullF ps).length) (0, 0)).2 p.1 p.2 = false := fun i hi => by
      have k := onany_at _ _ i (by rw [hlen]; exact hi) hoff
      obtain ⟨c1, c2⟩ := closed_at (h := hullF ps) (by omega) hi
      rw [c1, c2] at k
      exact k
    have hpar : xorp (cR p) ((hullF ps).getD 0 (0, 0)) ((hullF ps).drop 1 ++ [(hullF ps).getD 0 (0, 0)]) = true := by
      rw [par_ring ((off_iff _ _ _).2 hoff) (lastp_snoc _ _ _)]
      rw [xor_up (p := p) (g := upB p) _ _ (fun i hi => by
        obtain ⟨c1, c2⟩ := closed_at (h := hullF ps) (by omega) (i := i) (by omega)
        rw [c1, c2]
        exact cD_up (hall i (by omega)) (hof i (by omega)))]
      obtain ⟨A, B, t, e1, e2, e3, e4⟩ := hull_line h3
      rw [e1, xorp_app, up_mono _ _ e2, lastp_snoc, dn_mono _ _ e3]
      have ht : p.1 ≤ t.1 := by
        have := hull_aff (u := -1) (v := 0) (w := t.1) h3 hx (fun i hi => by have := e4 _ (hin hi); omega)
        omega
      have hz : ((hullF ps).getD 0 (0, 0)).1 ≤ p.1 := by
        have := hull_aff (u := 1) (v := 0) (w := -((hullF ps).getD 0 (0, 0)).1) h3 hx (fun i hi => by
          have k := (hull_least h1).1 _ (hin hi)
          rcases k with k | k
          · rw [k]; omega
          · unfold lxP at k; omega)
        omega
      have hne : ((hullF ps).getD 0 (0, 0)).1 ≠ p.1 := fun heq => by
        obtain ⟨n, hn⟩ : ∃ n, (hullF ps).length = n := ⟨_, rfl⟩
        have a0 := hall 0 (by omega)
        have b0 := hall (n - 1) (by omega)
        have oa := hof 0 (by omega)
        have ob := hof (n - 1) (by omega)
        have tb := hull_turn h3 (i := n - 1) (by omega)
        have tz := hull_turn h3 (i := n - 2) (by omega)
        have c0 := hall (n - 2) (by omega)
        have la := (hull_least h1).2 1 (by omega) (by omega)
        have lb := (hull_least h1).2 (n - 1) (by omega) (by omega)
        rw [hn] at a0 b0 oa ob tb tz c0
        have m1 : (n - 1 + 1) % n = 0 := by rw [show n - 1 + 1 = n by omega, Nat.mod_self]
        have m2 : (n - 1 + 2) % n = 1 := by rw [show n - 1 + 2 = 1 + n by omega, Nat.add_mod_right, Nat.mod_eq_of_lt (by omega)]
        have m3 : (0 + 1) % n = 1 := Nat.mod_eq_of_lt (by omega)
        have m4 : (n - 2 + 1) % n = n - 1 := by rw [show n - 2 + 1 = n - 1 by omega, Nat.mod_eq_of_lt (by omega)]
        have m5 : (n - 2 + 2) % n = 0 := by rw [show n - 2 + 2 = n by omega, Nat.mod_self]
        rw [m1] at b0 ob
        rw [m1, m2] at tb
        rw [m3] at a0 oa
        rw [m4, m5] at tz
        rw [m4] at c0
        generalize (hullF ps).getD (n - 2) (0, 0) = Y at *
        generalize (hullF ps).getD (n - 1) (0, 0) = b at *
        generalize (hullF ps).getD 1 (0, 0) = a at *
        generalize (hullF ps).getD 0 (0, 0) = z at *
        have v1 : crP z a p = (a.1 - z.1) * (p.2 - z.2) - (a.2 - z.2) * (p.1 - z.1) := crP_vec z a p
        have v2 : crP b z p = (z.1 - b.1) * (p.2 - z.2) - (z.2 - b.2) * (p.1 - z.1) := by unfold crP crs; grind
        have v3 : crP b z a = (z.1 - b.1) * (a.2 - z.2) - (z.2 - b.2) * (a.1 - z.1) := by unfold crP crs; grind
        rw [show p.1 - z.1 = 0 by omega, Int.mul_zero, Int.sub_zero] at v1 v2
        rcases Int.lt_trichotomy (p.2 - z.2) 0 with w | w | w
        · have ha : a.1 = z.1 := by
            apply Classical.byContradiction; intro hn
            have := Int.mul_neg_of_pos_of_neg (show 0 < a.1 - z.1 by unfold lxP at la; omega) w
            omega
          rw [show a.1 - z.1 = 0 by omega, Int.mul_zero, Int.sub_zero] at v3
          have : 0 < a.2 - z.2 := by unfold lxP at la; omega
          have := Int.mul_nonpos_of_nonpos_of_nonneg (show z.1 - b.1 ≤ 0 by unfold lxP at lb; omega) (Int.le_of_lt this)
          omega
        · have : p = z := Prod.ext (by omega) (by omega)
          rw [this, on_start] at oa; cases oa
        · have hb : b.1 = z.1 := by
            apply Classical.byContradiction; intro hn
            have := Int.mul_neg_of_neg_of_pos (show z.1 - b.1 < 0 by unfold lxP at lb; omega) w
            omega
          rw [show z.1 - b.1 = 0 by omega, Int.zero_mul] at v2
          rw [edge_seg tz tb c0 a0 v2] at ob; cases ob
      rw [decide_eq_true (by omega), decide_eq_false (by omega)]
      rfl
    rw [hpar]; decide
end Go.Proofs.Ytomnkdlfmjdckaa.Am.Sp

set_option linter.unusedVariables false
set_option linter.unusedSimpArgs false
namespace Go.Proofs.Ytomnkdlfmjdckaa.Am.Sp
open Go
/-! The hulls of the rings that are drawn -/
theorem hull_ex {S L U h : List (Int × Int)} (q : Hul S L U) (h2 : 2 ≤ L.length) (e : ring2 L U = h) : hullF S = h := by
  have q' : Hul (srd S) L U := q.less (fun p hp => srd_mem.1 hp) (fun p hp => srd_mem.2 (q.low.sub p hp)) (fun p hp => srd_mem.2 (q.upS hp))
  have hn := nodup_sub_len q.low.ds.nodup (m := srd S) (fun p hp => srd_mem.2 (q.low.sub p hp))
  obtain ⟨k, _⟩ := hul_srd (ps := S) (by omega)
  obtain ⟨e1, e2⟩ := k.uniq q'
  rw [hullF_two (by omega), e1, e2, e]
theorem low_of {S : List (Int × Int)} {c z : Int × Int} {r : List (Int × Int)} (ds : Ds (c :: r)) (tr : Tr (c :: r)) (lf : Lf S (c :: r)) (bt : (c :: r).getLast? = some z) (hb : ∀ p ∈ S, p = z ∨ lxP z p) (ht : ∀ p ∈ S, p = c ∨ lxP p c) (sub : ∀ p ∈ c :: r, p ∈ S) : Chn S (c :: r) := ⟨ds, tr, lf, ⟨z, bt, hb⟩, ⟨c, r, rfl, ht⟩, sub⟩
theorem up_of {S : List (Int × Int)} {c z : Int × Int} {r : List (Int × Int)} (ds : Ds ((c :: r).map negP)) (tr : Tr ((c :: r).map negP)) (lf : Lf (S.map negP) ((c :: r).map negP)) (bt : (c :: r).getLast? = some z) (hb : ∀ p ∈ S, p = z ∨ lxP p z) (ht : ∀ p ∈ S, p = c ∨ lxP c p) (sub : ∀ p ∈ c :: r, p ∈ S) : Chn (S.map negP) ((c :: r).map negP) :=
  ⟨ds, tr, lf, ⟨negP z, by rw [List.getLast?_map, bt]; rfl, fun p hp => by obtain ⟨q, hq, rfl⟩ := List.mem_map.1 hp; exact (hb q hq).imp (congrArg negP) lxP_neg.2⟩, ⟨negP c, r.map negP, rfl, fun p hp => by obtain ⟨q, hq, rfl⟩ := List.mem_map.1 hp; exact (ht q hq).imp (congrArg negP) lxP_neg.2⟩, fun p hp => by obtain ⟨q, hq, rfl⟩ := List.mem_map.1 hp; exact List.mem_map.2 ⟨q, sub q hq, rfl⟩⟩
theorem neg_all {S : List (Int × Int)} {a b : Int × Int} (h : ∀ p ∈ S, 0 ≤ crP a b p) : ∀ p ∈ S.map negP, 0 ≤ crP (negP a) (negP b) p := fun p hp => by
  obtain ⟨q, hq, rfl⟩ := List.mem_map.1 hp; rw [crP_neg]; exact h q hq
theorem sq_hull {x y r : Int} (hr : 1 ≤ r) : hullF [(x + (0 - r), y + (0 - r)), (x + r, y + (0 - r)), (x + r, y + r), (x + (0 - r), y + r)] = [(x + (0 - r), y + (0 - r)), (x + r, y + (0 - r)), (x + r, y + r), (x + (0 - r), y + r)] := by
  have hS : ∀ p ∈ [(x + (0 - r), y + (0 - r)), (x + r, y + (0 - r)), (x + r, y + r), (x + (0 - r), y + r)], (-r ≤ p.1 - x ∧ p.1 - x ≤ r) ∧ (-r ≤ p.2 - y ∧ p.2 - y ≤ r) := fun p hp => by
    simp only [List.mem_cons, List.not_mem_nil, or_false] at hp
    rcases hp with rfl | rfl | rfl | rfl <;> dsimp only <;> omega
  have hlx : ∀ p ∈ [(x + (0 - r), y + (0 - r)), (x + r, y + (0 - r)), (x + r, y + r), (x + (0 - r), y + r)], (p = (x + (0 - r), y + (0 - r)) ∨ lxP (x + (0 - r), y + (0 - r)) p) ∧ (p = (x + r, y + r) ∨ lxP p (x + r, y + r)) := fun p hp => by
    simp only [List.mem_cons, List.not_mem_nil, or_false] at hp
    rcases hp with rfl | rfl | rfl | rfl <;> rw [Prod.ext_iff, Prod.ext_iff] <;> unfold lxP <;> dsimp only <;> omega
  have e01 : ∀ p ∈ [(x + (0 - r), y + (0 - r)), (x + r, y + (0 - r)), (x + r, y + r), (x + (0 - r), y + r)], 0 ≤ crP (x + (0 - r), y + (0 - r)) (x + r, y + (0 - r)) p := fun p hp => by
    have kp := hS p hp
    rw [show crP (x + (0 - r), y + (0 - r)) (x + r, y + (0 - r)) p = (2 * r) * (p.2 - y + r) from by unfold crP crs; grind]
    exact mulnnH (by omega) (by omega)
  have e12 : ∀ p ∈ [(x + (0 - r), y + (0 - r)), (x + r, y + (0 - r)), (x + r, y + r), (x + (0 - r), y + r)], 0 ≤ crP (x + r, y + (0 - r)) (x + r, y + r) p := fun p hp => by
    have kp := hS p hp
    rw [show crP (x + r, y + (0 - r)) (x + r, y + r) p = (2 * r) * (r - (p.1 - x)) from by unfold crP crs; grind]
    exact mulnnH (by omega) (by omega)
  have e23 : ∀ p ∈ [(x + (0 - r), y + (0 - r)), (x + r, y + (0 - r)), (x + r, y + r), (x + (0 - r), y + r)], 0 ≤ crP (x + r, y + r) (x + (0 - r), y + r) p := fun p hp => by
    have kp := hS p hp
    rw [show crP (x + r, y + r) (x + (0 - r), y + r) p = (2 * r) * (r - (p.2 - y)) from by unfold crP crs; grind]
    exact mulnnH (by omega) (by omega)
  have e30 : ∀ p ∈ [(x + (0 - r), y + (0 - r)), (x + r, y + (0 - r)), (x + r, y + r), (x + (0 - r), y + r)], 0 ≤ crP (x + (0 - r), y + r) (x + (0 - r), y + (0 - r)) p := fun p hp => by
    have kp := hS p hp
    rw [show crP (x + (0 - r), y + r) (x + (0 - r), y + (0 - r)) p = (2 * r) * (p.1 - x + r) from by unfold crP crs; grind]
    exact mulnnH (by omega) (by omega)
  have tL0 : 0 < crP (x + (0 - r), y + (0 - r)) (x + r, y + (0 - r)) (x + r, y + r) := by
    rw [show crP (x + (0 - r), y + (0 - r)) (x + r, y + (0 - r)) (x + r, y + r) = (2 * r) * (2 * r) from by unfold crP crs; grind]
    exact Int.mul_pos (by omega) (by omega)
  have tU0 : 0 < crP (x + r, y + r) (x + (0 - r), y + r) (x + (0 - r), y + (0 - r)) := by
    rw [show crP (x + r, y + r) (x + (0 - r), y + r) (x + (0 - r), y + (0 - r)) = (2 * r) * (2 * r) from by unfold crP crs; grind]
    exact Int.mul_pos (by omega) (by omega)
  refine hull_ex (L := [(x + r, y + r), (x + r, y + (0 - r)), (x + (0 - r), y + (0 - r))]) (U := [(x + (0 - r), y + (0 - r)), (x + (0 - r), y + r), (x + r, y + r)]) ⟨low_of (z := (x + (0 - r), y + (0 - r))) ?_ ?_ ?_ rfl (fun p hp => (hlx p hp).1) (fun p hp => (hlx p hp).2) ?_, up_of (z := (x + r, y + r)) ?_ ?_ ?_ rfl (fun p hp => (hlx p hp).2) (fun p hp => (hlx p hp).1) ?_⟩ (by simp) rfl
  · simp only [Ds, and_true]; unfold lxP; dsimp only; omega
  · simp only [Tr, and_true]; exact tL0
  · exact ⟨e12, e01, trivial⟩
  · intro p hp; simp only [List.mem_cons, List.not_mem_nil, or_false] at hp ⊢; rcases hp with rfl | rfl | rfl <;> simp
  · simp only [List.map, Ds, lxP_neg, and_true]; unfold lxP; dsimp only; omega
  · simp only [List.map, Tr, crP_neg, and_true]; exact tU0
  · exact ⟨neg_all e30, neg_all e23, trivial⟩
  · intro p hp; simp only [List.mem_cons, List.not_mem_nil, or_false] at hp ⊢; rcases hp with rfl | rfl | rfl <;> simp
theorem tri_hull {x y r u v : Int} (hr : 1 ≤ r) (hu : 0 ≤ u ∧ u < 2 * r) (hv : 0 ≤ v ∧ v < 2 * r) : hullF [(x + (0 - r), y + (0 - r)), (x + r, y + (u - r)), (x + (v - r), y + r)] = [(x + (0 - r), y + (0 - r)), (x + r, y + (u - r)), (x + (v - r), y + r)] := by
  have hT : 0 < ((2 * r - u) * (2 * r) + u * (2 * r - v)) := by
    have k1 := Int.mul_pos (show 0 < 2 * r - u by omega) (show 0 < 2 * r by omega)
    have k2 := mulnnH hu.1 (show 0 ≤ 2 * r - v by omega)
    omega
  have hS : ∀ p ∈ [(x + (0 - r), y + (0 - r)), (x + r, y + (u - r)), (x + (v - r), y + r)], -r ≤ p.1 - x ∧ p.1 - x ≤ r := fun p hp => by
    simp only [List.mem_cons, List.not_mem_nil, or_false] at hp
    rcases hp with rfl | rfl | rfl <;> dsimp only <;> omega
  have hlx : ∀ p ∈ [(x + (0 - r), y + (0 - r)), (x + r, y + (u - r)), (x + (v - r), y + r)], (p = (x + (0 - r), y + (0 - r)) ∨ lxP (x + (0 - r), y + (0 - r)) p) ∧ (p = (x + r, y + (u - r)) ∨ lxP p (x + r, y + (u - r))) := fun p hp => by
    simp only [List.mem_cons, List.not_mem_nil, or_false] at hp
    rcases hp with rfl | rfl | rfl <;> rw [Prod.ext_iff, Prod.ext_iff] <;> unfold lxP <;> dsimp only <;> omega
  have e01 : ∀ p ∈ [(x + (0 - r), y + (0 - r)), (x + r, y + (u - r)), (x + (v - r), y + r)], 0 ≤ crP (x + (0 - r), y + (0 - r)) (x + r, y + (u - r)) p := fun p hp => by
    simp only [List.mem_cons, List.not_mem_nil, or_false] at hp
    rcases hp with rfl | rfl | rfl
    · rw [show crP (x + (0 - r), y + (0 - r)) (x + r, y + (u - r)) (x + (0 - r), y + (0 - r)) = 0 from by unfold crP crs; grind]; exact Int.le_refl _
    · rw [show crP (x + (0 - r), y + (0 - r)) (x + r, y + (u - r)) (x + r, y + (u - r)) = 0 from by unfold crP crs; grind]; exact Int.le_refl _
    · rw [show crP (x + (0 - r), y + (0 - r)) (x + r, y + (u - r)) (x + (v - r), y + r) = ((2 * r - u) * (2 * r) + u * (2 * r - v)) from by unfold crP crs; grind]; exact Int.le_of_lt hT
  have e12 : ∀ p ∈ [(x + (0 - r), y + (0 - r)), (x + r, y + (u - r)), (x + (v - r), y + r)], 0 ≤ crP (x + r, y + (u - r)) (x + (v - r), y + r) p := fun p hp => by
    simp only [List.mem_cons, List.not_mem_nil, or_false] at hp
    rcases hp with rfl | rfl | rfl
    · rw [show crP (x + r, y + (u - r)) (x + (v - r), y + r) (x + (0 - r), y + (0 - r)) = ((2 * r - u) * (2 * r) + u * (2 * r - v)) from by unfold crP crs; grind]; exact Int.le_of_lt hT
    · rw [show crP (x + r, y + (u - r)) (x + (v - r), y + r) (x + r, y + (u - r)) = 0 from by unfold crP crs; grind]; exact Int.le_refl _
    · rw [show crP (x + r, y + (u - r)) (x + (v - r), y + r) (x + (v - r), y + r) = 0 from by unfold crP crs; grind]; exact Int.le_refl _
  have e20 : ∀ p ∈ [(x + (0 - r), y + (0 - r)), (x + r, y + (u - r)), (x + (v - r), y + r)], 0 ≤ crP (x + (v - r), y + r) (x + (0 - r), y + (0 - r)) p := fun p hp => by
    simp only [List.mem_cons, List.not_mem_nil, or_false] at hp
    rcases hp with rfl | rfl | rfl
    · rw [show crP (x + (v - r), y + r) (x + (0 - r), y + (0 - r)) (x + (0 - r), y + (0 - r)) = 0 from by unfold crP crs; grind]; exact Int.le_refl _
    · rw [show crP (x + (v - r), y + r) (x + (0 - r), y + (0 - r)) (x + r, y + (u - r)) = ((2 * r - u) * (2 * r) + u * (2 * r - v)) from by unfold crP crs; grind]; exact Int.le_of_lt hT
    · rw [show crP (x + (v - r), y + r) (x + (0 - r), y + (0 - r)) (x + (v - r), y + r) = 0 from by unfold crP crs; grind]; exact Int.le_refl _
  have tU0 : 0 < crP (x + r, y + (u - r)) (x + (v - r), y + r) (x + (0 - r), y + (0 - r)) := by
    rw [show crP (x + r, y + (u - r)) (x + (v - r), y + r) (x + (0 - r), y + (0 - r)) = ((2 * r - u) * (2 * r) + u * (2 * r - v)) from by unfold crP crs; grind]
    exact hT
  refine hull_ex (L := [(x + r, y + (u - r)), (x + (0 - r), y + (0 - r))]) (U := [(x + (0 - r), y + (0 - r)), (x + (v - r), y + r), (x + r, y + (u - r))]) ⟨low_of (z := (x + (0 - r), y + (0 - r))) ?_ ?_ ?_ rfl (fun p hp => (hlx p hp).1) (fun p hp => (hlx p hp).2) ?_, up_of (z := (x + r, y + (u - r))) ?_ ?_ ?_ rfl (fun p hp => (hlx p hp).2) (fun p hp => (hlx p hp).1) ?_⟩ (by simp) rfl
  · simp only [Ds, and_true]; unfold lxP; dsimp only; omega
  · trivial
  · exact ⟨e01, trivial⟩
  · intro p hp; simp only [List.mem_cons, List.not_mem_nil, or_false] at hp ⊢; rcases hp with rfl | rfl <;> simp
  · simp only [List.map, Ds, lxP_neg, and_true]; unfold lxP; dsimp only; omega
  · simp only [List.map, Tr, crP_neg, and_true]; exact tU0
  · exact ⟨neg_all e20, neg_all e12, trivial⟩
  · intro p hp; simp only [List.mem_cons, List.not_mem_nil, or_false] at hp ⊢; rcases hp with rfl | rfl | rfl <;> simp
theorem arr_hull {x y r k : Int} (hr : 2 ≤ r) (hk : 0 ≤ k ∧ k < r - 1) : hullF [(x + (0 - r), y + (0 - r)), (x + 0, y + (-1 - k)), (x + r, y + (0 - r)), (x + 0, y + r)] = [(x + (0 - r), y + (0 - r)), (x + r, y + (0 - r)), (x + 0, y + r)] := by
  have hS : ∀ p ∈ [(x + (0 - r), y + (0 - r)), (x + 0, y + (-1 - k)), (x + r, y + (0 - r)), (x + 0, y + r)], (-r ≤ p.2 - y) ∧ (2 * (p.1 - x) + (p.2 - y) ≤ r) ∧ ((p.2 - y) - 2 * (p.1 - x) ≤ r) := fun p hp => by
    simp only [List.mem_cons, List.not_mem_nil, or_false] at hp
    rcases hp with rfl | rfl | rfl | rfl <;> dsimp only <;> omega
  have hlx : ∀ p ∈ [(x + (0 - r), y + (0 - r)), (x + 0, y + (-1 - k)), (x + r, y + (0 - r)), (x + 0, y + r)], (p = (x + (0 - r), y + (0 - r)) ∨ lxP (x + (0 - r), y + (0 - r)) p) ∧ (p = (x + r, y + (0 - r)) ∨ lxP p (x + r, y + (0 - r))) := fun p hp => by
    simp only [List.mem_cons, List.not_mem_nil, or_false] at hp
    rcases hp with rfl | rfl | rfl | rfl <;> rw [Prod.ext_iff, Prod.ext_iff] <;> unfold lxP <;> dsimp only <;> omega
  have e02 : ∀ p ∈ [(x + (0 - r), y + (0 - r)), (x + 0, y + (-1 - k)), (x + r, y + (0 - r)), (x + 0, y + r)], 0 ≤ crP (x + (0 - r), y + (0 - r)) (x + r, y + (0 - r)) p := fun p hp => by
    have kp := hS p hp
    rw [show crP (x + (0 - r), y + (0 - r)) (x + r, y + (0 - r)) p = (2 * r) * (p.2 - y + r) from by unfold crP crs; grind]
    exact mulnnH (by omega) (by omega)
  have e23 : ∀ p ∈ [(x + (0 - r), y + (0 - r)), (x + 0, y + (-1 - k)), (x + r, y + (0 - r)), (x + 0, y + r)], 0 ≤ crP (x + r, y + (0 - r)) (x + 0, y + r) p := fun p hp => by
    have kp := hS p hp
    rw [show crP (x + r, y + (0 - r)) (x + 0, y + r) p = (r) * (r - (p.2 - y) - 2 * (p.1 - x)) from by unfold crP crs; grind]
    exact mulnnH (by omega) (by omega)
  have e30 : ∀ p ∈ [(x + (0 - r), y + (0 - r)), (x + 0, y + (-1 - k)), (x + r, y + (0 - r)), (x + 0, y + r)], 0 ≤ crP (x + 0, y + r) (x + (0 - r), y + (0 - r)) p := fun p hp => by
    have kp := hS p hp
    rw [show crP (x + 0, y + r) (x + (0 - r), y + (0 - r)) p = (r) * (r - (p.2 - y) + 2 * (p.1 - x)) from by unfold crP crs; grind]
    exact mulnnH (by omega) (by omega)
  have tU0 : 0 < crP (x + r, y + (0 - r)) (x + 0, y + r) (x + (0 - r), y + (0 - r)) := by
    rw [show crP (x + r, y + (0 - r)) (x + 0, y + r) (x + (0 - r), y + (0 - r)) = r * (4 * r) from by unfold crP crs; grind]
    exact Int.mul_pos (by omega) (by omega)
  refine hull_ex (L := [(x + r, y + (0 - r)), (x + (0 - r), y + (0 - r))]) (U := [(x + (0 - r), y + (0 - r)), (x + 0, y + r), (x + r, y + (0 - r))]) ⟨low_of (z := (x + (0 - r), y + (0 - r))) ?_ ?_ ?_ rfl (fun p hp => (hlx p hp).1) (fun p hp => (hlx p hp).2) ?_, up_of (z := (x + r, y + (0 - r))) ?_ ?_ ?_ rfl (fun p hp => (hlx p hp).2) (fun p hp => (hlx p hp).1) ?_⟩ (by simp) rfl
  · simp only [Ds, and_true]; unfold lxP; dsimp only; omega
  · trivial
  · exact ⟨e02, trivial⟩
  · intro p hp; simp only [List.mem_cons, List.not_mem_nil, or_false] at hp ⊢; rcases hp with rfl | rfl <;> simp
  · simp only [List.map, Ds, lxP_neg, and_true]; unfold lxP; dsimp only; omega
  · simp only [List.map, Tr, crP_neg, and_true]; exact tU0
  · exact ⟨neg_all e30, neg_all e23, trivial⟩
  · intro p hp; simp only [List.mem_cons, List.not_mem_nil, or_false] at hp ⊢; rcases hp with rfl | rfl | rfl <;> simp
theorem oct_hull {x y r k : Int} (hr : 2 ≤ r) (hk : 1 ≤ k ∧ k < r) : hullF [(x + (0 - r), y + (0 - k)), (x + (0 - k), y + (0 - r)), (x + k, y + (0 - r)), (x + r, y + (0 - k)), (x + r, y + k), (x + k, y + r), (x + (0 - k), y + r), (x + (0 - r), y + k)] = [(x + (0 - r), y + (0 - k)), (x + (0 - k), y + (0 - r)), (x + k, y + (0 - r)), (x + r, y + (0 - k)), (x + r, y + k), (x + k, y + r), (x + (0 - k), y + r), (x + (0 - r), y + k)] := by
  have hS : ∀ p ∈ [(x + (0 - r), y + (0 - k)), (x + (0 - k), y + (0 - r)), (x + k, y + (0 - r)), (x + r, y + (0 - k)), (x + r, y + k), (x + k, y + r), (x + (0 - k), y + r), (x + (0 - r), y + k)], ((-r ≤ p.1 - x ∧ p.1 - x ≤ r) ∧ (-r ≤ p.2 - y ∧ p.2 - y ≤ r)) ∧ (-(r + k) ≤ (p.1 - x) + (p.2 - y) ∧ (p.1 - x) + (p.2 - y) ≤ r + k) ∧ (-(r + k) ≤ (p.1 - x) - (p.2 - y) ∧ (p.1 - x) - (p.2 - y) ≤ r + k) := fun p hp => by
    simp only [List.mem_cons, List.not_mem_nil, or_false] at hp
    rcases hp with rfl | rfl | rfl | rfl | rfl | rfl | rfl | rfl <;> dsimp only <;> omega
  have hlx : ∀ p ∈ [(x + (0 - r), y + (0 - k)), (x + (0 - k), y + (0 - r)), (x + k, y + (0 - r)), (x + r, y + (0 - k)), (x + r, y + k), (x + k, y + r), (x + (0 - k), y + r), (x + (0 - r), y + k)], (p = (x + (0 - r), y + (0 - k)) ∨ lxP (x + (0 - r), y + (0 - k)) p) ∧ (p = (x + r, y + k) ∨ lxP p (x + r, y + k)) := fun p hp => by
    simp only [List.mem_cons, List.not_mem_nil, or_false] at hp
    rcases hp with rfl | rfl | rfl | rfl | rfl | rfl | rfl | rfl <;> rw [Prod.ext_iff, Prod.ext_iff] <;> unfold lxP <;> dsimp only <;> omega
  have e01 : ∀ p ∈ [(x + (0 - r), y + (0 - k)), (x + (0 - k), y + (0 - r)), (x + k, y + (0 - r)), (x + r, y + (0 - k)), (x + r, y + k), (x + k, y + r), (x + (0 - k), y + r), (x + (0 - r), y + k)], 0 ≤ crP (x + (0 - r), y + (0 - k)) (x + (0 - k), y + (0 - r)) p := fun p hp => by
    have kp := hS p hp
    rw [show crP (x + (0 - r), y + (0 - k)) (x + (0 - k), y + (0 - r)) p = (r - k) * ((p.1 - x) + (p.2 - y) + (r + k)) from by unfold crP crs; grind]
    exact mulnnH (by omega) (by omega)
  have e12 : ∀ p ∈ [(x + (0 - r), y + (0 - k)), (x + (0 - k), y + (0 - r)), (x + k, y + (0 - r)), (x + r, y + (0 - k)), (x + r, y + k), (x + k, y + r), (x + (0 - k), y + r), (x + (0 - r), y + k)], 0 ≤ crP (x + (0 - k), y + (0 - r)) (x + k, y + (0 - r)) p := fun p hp => by
    have kp := hS p hp
    rw [show crP (x + (0 - k), y + (0 - r)) (x + k, y + (0 - r)) p = (2 * k) * (p.2 - y + r) from by unfold crP crs; grind]
    exact mulnnH (by omega) (by omega)
  have e23 : ∀ p ∈ [(x + (0 - r), y + (0 - k)), (x + (0 - k), y + (0 - r)), (x + k, y + (0 - r)), (x + r, y + (0 - k)), (x + r, y + k), (x + k, y + r), (x + (0 - k), y + r), (x + (0 - r), y + k)], 0 ≤ crP (x + k, y + (0 - r)) (x + r, y + (0 - k)) p := fun p hp => by
    have kp := hS p hp
    rw [show crP (x + k, y + (0 - r)) (x + r, y + (0 - k)) p = (r - k) * ((r + k) - ((p.1 - x) - (p.2 - y))) from by unfold crP crs; grind]
    exact mulnnH (by omega) (by omega)
  have e34 : ∀ p ∈ [(x + (0 - r), y + (0 - k)), (x + (0 - k), y + (0 - r)), (x + k, y + (0 - r)), (x + r, y + (0 - k)), (x + r, y + k), (x + k, y + r), (x + (0 - k), y + r), (x + (0 - r), y + k)], 0 ≤ crP (x + r, y + (0 - k)) (x + r, y + k) p := fun p hp => by
    have kp := hS p hp
    rw [show crP (x + r, y + (0 - k)) (x + r, y + k) p = (2 * k) * (r - (p.1 - x)) from by unfold crP crs; grind]
    exact mulnnH (by omega) (by omega)
  have e45 : ∀ p ∈ [(x + (0 - r), y + (0 - k)), (x + (0 - k), y + (0 - r)), (x + k, y + (0 - r)), (x + r, y + (0 - k)), (x + r, y + k), (x + k, y + r), (x + (0 - k), y + r), (x + (0 - r), y + k)], 0 ≤ crP (x + r, y + k) (x + k, y + r) p := fun p hp => by
    have kp := hS p hp
    rw [show crP (x + r, y + k) (x + k, y + r) p = (r - k) * ((r + k) - ((p.1 - x) + (p.2 - y))) from by unfold crP crs; grind]
    exact mulnnH (by omega) (by omega)
  have e56 : ∀ p ∈ [(x + (0 - r), y + (0 - k)), (x + (0 - k), y + (0 - r)), (x + k, y + (0 - r)), (x + r, y + (0 - k)), (x + r, y + k), (x + k, y + r), (x + (0 - k), y + r), (x + (0 - r), y + k)], 0 ≤ crP (x + k, y + r) (x + (0 - k), y + r) p := fun p hp => by
    have kp := hS p hp
    rw [show crP (x + k, y + r) (x + (0 - k), y + r) p = (2 * k) * (r - (p.2 - y)) from by unfold crP crs; grind]
    exact mulnnH (by omega) (by omega)
  have e67 : ∀ p ∈ [(x + (0 - r), y + (0 - k)), (x + (0 - k), y + (0 - r)), (x + k, y + (0 - r)), (x + r, y + (0 - k)), (x + r, y + k), (x + k, y + r), (x + (0 - k), y + r), (x + (0 - r), y + k)], 0 ≤ crP (x + (0 - k), y + r) (x + (0 - r), y + k) p := fun p hp => by
    have kp := hS p hp
    rw [show crP (x + (0 - k), y + r) (x + (0 - r), y + k) p = (r - k) * ((p.1 - x) - (p.2 - y) + (r + k)) from by unfold crP crs; grind]
    exact mulnnH (by omega) (by omega)
  have e70 : ∀ p ∈ [(x + (0 - r), y + (0 - k)), (x + (0 - k), y + (0 - r)), (x + k, y + (0 - r)), (x + r, y + (0 - k)), (x + r, y + k), (x + k, y + r), (x + (0 - k), y + r), (x + (0 - r), y + k)], 0 ≤ crP (x + (0 - r), y + k) (x + (0 - r), y + (0 - k)) p := fun p hp => by
    have kp := hS p hp
    rw [show crP (x + (0 - r), y + k) (x + (0 - r), y + (0 - k)) p = (2 * k) * (p.1 - x + r) from by unfold crP crs; grind]
    exact mulnnH (by omega) (by omega)
  have tL0 : 0 < crP (x + k, y + (0 - r)) (x + r, y + (0 - k)) (x + r, y + k) := by
    rw [show crP (x + k, y + (0 - r)) (x + r, y + (0 - k)) (x + r, y + k) = (2 * k) * (r - k) from by unfold crP crs; grind]
    exact Int.mul_pos (by omega) (by omega)
  have tL1 : 0 < crP (x + (0 - k), y + (0 - r)) (x + k, y + (0 - r)) (x + r, y + (0 - k)) := by
    rw [show crP (x + (0 - k), y + (0 - r)) (x + k, y + (0 - r)) (x + r, y + (0 - k)) = (2 * k) * (r - k) from by unfold crP crs; grind]
    exact Int.mul_pos (by omega) (by omega)
  have tL2 : 0 < crP (x + (0 - r), y + (0 - k)) (x + (0 - k), y + (0 - r)) (x + k, y + (0 - r)) := by
    rw [show crP (x + (0 - r), y + (0 - k)) (x + (0 - k), y + (0 - r)) (x + k, y + (0 - r)) = (2 * k) * (r - k) from by unfold crP crs; grind]
    exact Int.mul_pos (by omega) (by omega)
  have tU0 : 0 < crP (x + (0 - k), y + r) (x + (0 - r), y + k) (x + (0 - r), y + (0 - k)) := by
    rw [show crP (x + (0 - k), y + r) (x + (0 - r), y + k) (x + (0 - r), y + (0 - k)) = (2 * k) * (r - k) from by unfold crP crs; grind]
    exact Int.mul_pos (by omega) (by omega)
  have tU1 : 0 < crP (x + k, y + r) (x + (0 - k), y + r) (x + (0 - r), y + k) := by
    rw [show crP (x + k, y + r) (x + (0 - k), y + r) (x + (0 - r), y + k) = (2 * k) * (r - k) from by unfold crP crs; grind]
    exact Int.mul_pos (by omega) (by omega)
  have tU2 : 0 < crP (x + r, y + k) (x + k, y + r) (x + (0 - k), y + r) := by
    rw [show crP (x + r, y + k) (x + k, y + r) (x + (0 - k), y + r) = (2 * k) * (r - k) from by unfold crP crs; grind]
    exact Int.mul_pos (by omega) (by omega)
  refine hull_ex (L := [(x + r, y + k), (x + r, y + (0 - k)), (x + k, y + (0 - r)), (x + (0 - k), y + (0 - r)), (x + (0 - r), y + (0 - k))]) (U := [(x + (0 - r), y + (0 - k)), (x + (0 - r), y + k), (x + (0 - k), y + r), (x + k, y + r), (x + r, y + k)]) ⟨low_of (z := (x + (0 - r), y + (0 - k))) ?_ ?_ ?_ rfl (fun p hp => (hlx p hp).1) (fun p hp => (hlx p hp).2) ?_, up_of (z := (x + r, y + k)) ?_ ?_ ?_ rfl (fun p hp => (hlx p hp).2) (fun p hp => (hlx p hp).1) ?_⟩ (by simp) rfl
  · simp only [Ds, and_true]; unfold lxP; dsimp only; omega
  · simp only [Tr, and_true]; exact ⟨tL0, tL1, tL2⟩
  · exact ⟨e34, e23, e12, e01, trivial⟩
  · intro p hp; simp only [List.mem_cons, List.not_mem_nil, or_false] at hp ⊢; rcases hp with rfl | rfl | rfl | rfl | rfl <;> simp
  · simp only [List.map, Ds, lxP_neg, and_true]; unfold lxP; dsimp only; omega
  · simp only [List.map, Tr, crP_neg, and_true]; exact ⟨tU0, tU1, tU2⟩
  · exact ⟨neg_all e70, neg_all e67, neg_all e56, neg_all e45, trivial⟩
  · intro p hp; simp only [List.mem_cons, List.not_mem_nil, or_false] at hp ⊢; rcases hp with rfl | rfl | rfl | rfl | rfl <;> simp
theorem ell_hull {x y r a b : Int} (hr : 1 ≤ r) (ha : 0 ≤ a ∧ a < r) (hb : 0 ≤ b ∧ b < r) : hullF [(x + (0 - r), y + (0 - r)), (x + r, y + (0 - r)), (x + r, y + (0 - b)), (x + (0 - a), y + (0 - b)), (x + (0 - a), y + r), (x + (0 - r), y + r)] = [(x + (0 - r), y + (0 - r)), (x + r, y + (0 - r)), (x + r, y + (0 - b)), (x + (0 - a), y + r), (x + (0 - r), y + r)] := by
  have hS : ∀ p ∈ [(x + (0 - r), y + (0 - r)), (x + r, y + (0 - r)), (x + r, y + (0 - b)), (x + (0 - a), y + (0 - b)), (x + (0 - a), y + r), (x + (0 - r), y + r)], (-r ≤ p.1 - x ∧ p.1 - x ≤ r) ∧ (-r ≤ p.2 - y ∧ p.2 - y ≤ r) := fun p hp => by
    simp only [List.mem_cons, List.not_mem_nil, or_false] at hp
    rcases hp with rfl | rfl | rfl | rfl | rfl | rfl <;> dsimp only <;> omega
  have hlx : ∀ p ∈ [(x + (0 - r), y + (0 - r)), (x + r, y + (0 - r)), (x + r, y + (0 - b)), (x + (0 - a), y + (0 - b)), (x + (0 - a), y + r), (x + (0 - r), y + r)], (p = (x + (0 - r), y + (0 - r)) ∨ lxP (x + (0 - r), y + (0 - r)) p) ∧ (p = (x + r, y + (0 - b)) ∨ lxP p (x + r, y + (0 - b))) := fun p hp => by
    simp only [List.mem_cons, List.not_mem_nil, or_false] at hp
    rcases hp with rfl | rfl | rfl | rfl | rfl | rfl <;> rw [Prod.ext_iff, Prod.ext_iff] <;> unfold lxP <;> dsimp only <;> omega
  have e01 : ∀ p ∈ [(x + (0 - r), y + (0 - r)), (x + r, y + (0 - r)), (x + r, y + (0 - b)), (x + (0 - a), y + (0 - b)), (x + (0 - a), y + r), (x + (0 - r), y + r)], 0 ≤ crP (x + (0 - r), y + (0 - r)) (x + r, y + (0 - r)) p := fun p hp => by
    have kp := hS p hp
    rw [show crP (x + (0 - r), y + (0 - r)) (x + r, y + (0 - r)) p = (2 * r) * (p.2 - y + r) from by unfold crP crs; grind]
    exact mulnnH (by omega) (by omega)
  have e12 : ∀ p ∈ [(x + (0 - r), y + (0 - r)), (x + r, y + (0 - r)), (x + r, y + (0 - b)), (x + (0 - a), y + (0 - b)), (x + (0 - a), y + r), (x + (0 - r), y + r)], 0 ≤ crP (x + r, y + (0 - r)) (x + r, y + (0 - b)) p := fun p hp => by
    have kp := hS p hp
    rw [show crP (x + r, y + (0 - r)) (x + r, y + (0 - b)) p = (r - b) * (r - (p.1 - x)) from by unfold crP crs; grind]
    exact mulnnH (by omega) (by omega)
  have e24 : ∀ p ∈ [(x + (0 - r), y + (0 - r)), (x + r, y + (0 - r)), (x + r, y + (0 - b)), (x + (0 - a), y + (0 - b)), (x + (0 - a), y + r), (x + (0 - r), y + r)], 0 ≤ crP (x + r, y + (0 - b)) (x + (0 - a), y + r) p := fun p hp => by
    simp only [List.mem_cons, List.not_mem_nil, or_false] at hp
    rcases hp with rfl | rfl | rfl | rfl | rfl | rfl
    · rw [show crP (x + r, y + (0 - b)) (x + (0 - a), y + r) (x + (0 - r), y + (0 - r)) = (r + b) * (2 * r) + (a + r) * (r - b) from by unfold crP crs; grind]; have k1 := mulnnH (show 0 ≤ r + b by omega) (show 0 ≤ 2 * r by omega); have k2 := mulnnH (show 0 ≤ a + r by omega) (show 0 ≤ r - b by omega); omega
    · rw [show crP (x + r, y + (0 - b)) (x + (0 - a), y + r) (x + r, y + (0 - r)) = (a + r) * (r - b) from by unfold crP crs; grind]; exact mulnnH (by omega) (by omega)
    · rw [show crP (x + r, y + (0 - b)) (x + (0 - a), y + r) (x + r, y + (0 - b)) = 0 from by unfold crP crs; grind]; exact Int.le_refl _
    · rw [show crP (x + r, y + (0 - b)) (x + (0 - a), y + r) (x + (0 - a), y + (0 - b)) = (r + b) * (r + a) from by unfold crP crs; grind]; exact mulnnH (by omega) (by omega)
    · rw [show crP (x + r, y + (0 - b)) (x + (0 - a), y + r) (x + (0 - a), y + r) = 0 from by unfold crP crs; grind]; exact Int.le_refl _
    · rw [show crP (x + r, y + (0 - b)) (x + (0 - a), y + r) (x + (0 - r), y + r) = (r + b) * (r - a) from by unfold crP crs; grind]; exact mulnnH (by omega) (by omega)
  have e45 : ∀ p ∈ [(x + (0 - r), y + (0 - r)), (x + r, y + (0 - r)), (x + r, y + (0 - b)), (x + (0 - a), y + (0 - b)), (x + (0 - a), y + r), (x + (0 - r), y + r)], 0 ≤ crP (x + (0 - a), y + r) (x + (0 - r), y + r) p := fun p hp => by
    have kp := hS p hp
    rw [show crP (x + (0 - a), y + r) (x + (0 - r), y + r) p = (r - a) * (r - (p.2 - y)) from by unfold crP crs; grind]
    exact mulnnH (by omega) (by omega)
  have e50 : ∀ p ∈ [(x + (0 - r), y + (0 - r)), (x + r, y + (0 - r)), (x + r, y + (0 - b)), (x + (0 - a), y + (0 - b)), (x + (0 - a), y + r), (x + (0 - r), y + r)], 0 ≤ crP (x + (0 - r), y + r) (x + (0 - r), y + (0 - r)) p := fun p hp => by
    have kp := hS p hp
    rw [show crP (x + (0 - r), y + r) (x + (0 - r), y + (0 - r)) p = (2 * r) * (p.1 - x + r) from by unfold crP crs; grind]
    exact mulnnH (by omega) (by omega)
  have tL0 : 0 < crP (x + (0 - r), y + (0 - r)) (x + r, y + (0 - r)) (x + r, y + (0 - b)) := by
    rw [show crP (x + (0 - r), y + (0 - r)) (x + r, y + (0 - r)) (x + r, y + (0 - b)) = (2 * r) * (r - b) from by unfold crP crs; grind]
    exact Int.mul_pos (by omega) (by omega)
  have tU0 : 0 < crP (x + (0 - a), y + r) (x + (0 - r), y + r) (x + (0 - r), y + (0 - r)) := by
    rw [show crP (x + (0 - a), y + r) (x + (0 - r), y + r) (x + (0 - r), y + (0 - r)) = (2 * r) * (r - a) from by unfold crP crs; grind]
    exact Int.mul_pos (by omega) (by omega)
  have tU1 : 0 < crP (x + r, y + (0 - b)) (x + (0 - a), y + r) (x + (0 - r), y + r) := by
    rw [show crP (x + r, y + (0 - b)) (x + (0 - a), y + r) (x + (0 - r), y + r) = (r + b) * (r - a) from by unfold crP crs; grind]
    exact Int.mul_pos (by omega) (by omega)
  refine hull_ex (L := [(x + r, y + (0 - b)), (x + r, y + (0 - r)), (x + (0 - r), y + (0 - r))]) (U := [(x + (0 - r), y + (0 - r)), (x + (0 - r), y + r), (x + (0 - a), y + r), (x + r, y + (0 - b))]) ⟨low_of (z := (x + (0 - r), y + (0 - r))) ?_ ?_ ?_ rfl (fun p hp => (hlx p hp).1) (fun p hp => (hlx p hp).2) ?_, up_of (z := (x + r, y + (0 - b))) ?_ ?_ ?_ rfl (fun p hp => (hlx p hp).2) (fun p hp => (hlx p hp).1) ?_⟩ (by simp) rfl
  · simp only [Ds, and_true]; unfold lxP; dsimp only; omega
  · simp only [Tr, and_true]; exact tL0
  · exact ⟨e12, e01, trivial⟩
  · intro p hp; simp only [List.mem_cons, List.not_mem_nil, or_false] at hp ⊢; rcases hp with rfl | rfl | rfl <;> simp
  · simp only [List.map, Ds, lxP_neg, and_true]; unfold lxP; dsimp only; omega
  · simp only [List.map, Tr, crP_neg, and_true]; exact ⟨tU0, tU1⟩
  · exact ⟨neg_all e50, neg_all e45, neg_all e24, trivial⟩
  · intro p hp; simp only [List.mem_cons, List.not_mem_nil, or_false] at hp ⊢; rcases hp with rfl | rfl | rfl | rfl <;> simp
end Go.Proofs.Ytomnkdlfmjdckaa.Am.Sp

set_option linter.unusedVariables false
set_option linter.unusedSimpArgs false
namespace Go.Proofs.Ytomnkdlfmjdckaa.Am.Sp
open Go
/-! The rings that are drawn, their hulls and their areas -/
theorem trp_few {ps : List (Int × Int)} (hf : Few 40 ps) (i j : Nat) : trp ps i j = ((ps.getD i (0, 0)).1 - (ps.getD j (0, 0)).1) * ((ps.getD i (0, 0)).2 + (ps.getD j (0, 0)).2) := by
  have a := hf i
  have b := hf j
  unfold trp cA cB
  rw [lim_id (by omega) (by omega), lim_id (by omega) (by omega), lim_id (by omega) (by omega), lim_id (by omega) (by omega)]
theorem arr_area {x y r k : Int} (hr : 2 ≤ r) (hk : 0 ≤ k ∧ k < r - 1) (f1 : Few 40 [(x + (0 - r), y + (0 - r)), (x + 0, y + (-1 - k)), (x + r, y + (0 - r)), (x + 0, y + r)]) (f2 : Few 40 [(x + (0 - r), y + (0 - r)), (x + r, y + (0 - r)), (x + 0, y + r)]) : areaN [(x + (0 - r), y + (0 - r)), (x + 0, y + (-1 - k)), (x + r, y + (0 - r)), (x + 0, y + r)] < areaN [(x + (0 - r), y + (0 - r)), (x + r, y + (0 - r)), (x + 0, y + r)] := by
  have h := Int.mul_pos (show 0 < 2 * r by omega) (show 0 < r - 1 - k by omega)
  have e : areaN [(x + (0 - r), y + (0 - r)), (x + r, y + (0 - r)), (x + 0, y + r)] - areaN [(x + (0 - r), y + (0 - r)), (x + 0, y + (-1 - k)), (x + r, y + (0 - r)), (x + 0, y + r)] = 2 * r * (r - 1 - k) := by
    unfold areaN
    simp only [List.length_cons, List.length_nil, sumN, trE, trp_few f1, trp_few f2, Nat.reduceAdd, Nat.reduceMod, List.getD_cons_zero, List.getD_cons_succ]
    grind
  omega
theorem ell_area {x y r a b : Int} (hr : 1 ≤ r) (ha : 0 ≤ a ∧ a < r) (hb : 0 ≤ b ∧ b < r) (f1 : Few 40 [(x + (0 - r), y + (0 - r)), (x + r, y + (0 - r)), (x + r, y + (0 - b)), (x + (0 - a), y + (0 - b)), (x + (0 - a), y + r), (x + (0 - r), y + r)]) (f2 : Few 40 [(x + (0 - r), y + (0 - r)), (x + r, y + (0 - r)), (x + r, y + (0 - b)), (x + (0 - a), y + r), (x + (0 - r), y + r)]) : areaN [(x + (0 - r), y + (0 - r)), (x + r, y + (0 - r)), (x + r, y + (0 - b)), (x + (0 - a), y + (0 - b)), (x + (0 - a), y + r), (x + (0 - r), y + r)] < areaN [(x + (0 - r), y + (0 - r)), (x + r, y + (0 - r)), (x + r, y + (0 - b)), (x + (0 - a), y + r), (x + (0 - r), y + r)] := by
  have h := Int.mul_pos (show 0 < r + a by omega) (show 0 < r + b by omega)
  have e : areaN [(x + (0 - r), y + (0 - r)), (x + r, y + (0 - r)), (x + r, y + (0 - b)), (x + (0 - a), y + r), (x + (0 - r), y + r)] - areaN [(x + (0 - r), y + (0 - r)), (x + r, y + (0 - r)), (x + r, y + (0 - b)), (x + (0 - a), y + (0 - b)), (x + (0 - a), y + r), (x + (0 - r), y + r)] = (r + a) * (r + b) := by
    unfold areaN
    simp only [List.length_cons, List.length_nil, sumN, trE, trp_few f1, trp_few f2, Nat.reduceAdd, Nat.reduceMod, List.getD_cons_zero, List.getD_cons_succ]
    grind
  omega
theorem rng_hull {x y r s u v : Int} (hr : 4 ≤ r) (hs : 0 ≤ s ∧ s ≤ 4) (hf : Few 40 (rng x y r s u v)) (hfh : Few 40 (hullF (rng x y r s u v))) : hullF (rng x y r s u v) = rng x y r s u v ∨ (areaN (rng x y r s u v) < areaN (hullF (rng x y r s u v)) ∧ 3 ≤ (hullF (rng x y r s u v)).length ∧ (hullF (rng x y r s u v)).length ≤ 8) := by
  have u2 := emod_bd u (n := 2 * r) (by omega)
  have v2 := emod_bd v (n := 2 * r) (by omega)
  have u1 := emod_bd u (n := r) (by omega)
  have v1 := emod_bd v (n := r) (by omega)
  have u3 := emod_bd u (n := r - 1) (by omega)
  unfold rng at hf hfh ⊢
  split
  · exact .inl (tri_hull (by omega) (by omega) (by omega))
  · split
    · right
      rename_i c1 c2
      rw [if_neg c1, if_pos c2] at hf hfh
      rw [ell_hull (by omega) (by omega) (by omega)] at hfh ⊢
      exact ⟨ell_area (by omega) (by omega) (by omega) hf hfh, by simp, by simp⟩
    · split
      · right
        rename_i c1 c2 c3
        rw [if_neg c1, if_neg c2, if_pos c3] at hf hfh
        rw [arr_hull (by omega) (by omega)] at hfh ⊢
        exact ⟨arr_area (by omega) (by omega) hf hfh, by simp, by simp⟩
      · split
        · exact .inl (oct_hull (by omega) (by omega))
        · exact .inl (sq_hull (by omega))
theorem rngL_hull (xs : List Int) : hullF (rngL xs) = rngL xs ∨ (areaN (rngL xs) < areaN (hullF (rngL xs)) ∧ 3 ≤ (hullF (rngL xs)).length ∧ (hullF (rngL xs)).length ≤ 8) := by
  have c := emod_bd (xs.getD 2 0) (n := 16) (by decide)
  have d := emod_bd (xs.getD 3 0) (n := 5) (by decide)
  exact rng_hull (by omega) (by omega) (rngL_few xs) (few_sub (by decide) (rngL_few xs) (fun q hq => hull_sub hq))
/-- a ring that is its own hull is its own normal form -/
theorem nrm_hull {ps : List (Int × Int)} (h : hullF ps = ps) (h1 : 1 ≤ ps.length) (ha : 0 < areaN ps) (hf : Few 40 ps) (hl : ps.length ≤ 8) : nrmL ps 0 = ps ∧ ∀ j, j < ps.length → befP (ps.getD j (0, 0)) (ps.getD 0 (0, 0)) = false := by
  refine ⟨by rw [nrm_pl (by rw [(twF_area hf hl).1]; omega), rot_zero], fun j hj => ?_⟩
  have k := (hull_least h1).1 _ (mem_getD hj)
  rw [h] at k
  cases hb : befP (ps.getD j (0, 0)) (ps.getD 0 (0, 0))
  · rfl
  · have := (befP_iff _ _).1 hb
    rcases k with k | k
    · rw [k] at this; omega
    · unfold lxP at k; omega
end Go.Proofs.Ytomnkdlfmjdckaa.Am.Sp

