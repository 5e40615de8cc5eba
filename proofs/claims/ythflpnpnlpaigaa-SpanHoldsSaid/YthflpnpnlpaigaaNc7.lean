import Derived.Test.YthflpnpnlpaigaaNc6
set_option linter.unusedVariables false
set_option linter.unusedSimpArgs false
namespace Go.Proofs.Ythflpnpnlpaigaa.Am.Sp
/-! what is taken from spans is in the results of the spans -/
def pt (l h : Rat) (k : Int) : Rat := l + (((k % 9 : Int) : Rat) / ((8 : Int) : Rat)) * (h + -l)
theorem in_iff {l h a : Rat} : inS l h a = true ↔ l ≤ a ∧ a ≤ h := by unfold inS; rw [Bool.and_eq_true, decide_eq_true_eq, decide_eq_true_eq]
theorem pt_in {l h : Rat} (k : Int) (hl : l ≤ h) : inS l h (pt l h k) = true := by
  rw [in_iff]; unfold pt
  have h0 : ((0 : Int) : Rat) ≤ ((k % 9 : Int) : Rat) := Rat.intCast_le_intCast.2 (by omega)
  have h1 : ((k % 9 : Int) : Rat) ≤ ((8 : Int) : Rat) := Rat.intCast_le_intCast.2 (by omega)
  have e0 : ((0 : Int) : Rat) = 0 := rfl
  have e8 : ((8 : Int) : Rat) = 8 := rfl
  rw [e0] at h0; rw [e8] at h1 ⊢
  generalize ((k % 9 : Int) : Rat) = t at *
  have hd : 0 ≤ h + -l := by grind
  have u0 : 0 * (h + -l) ≤ t * (h + -l) := Rat.mul_le_mul_of_nonneg_right h0 hd
  have u1 : t * (h + -l) ≤ 8 * (h + -l) := Rat.mul_le_mul_of_nonneg_right h1 hd
  have e : t / 8 * (h + -l) = t * (h + -l) / 8 := by grind
  rw [e]; constructor <;> grind
theorem add_in {l h m n a b : Rat} (ha : inS l h a = true) (hb : inS m n b = true) : inS (l + m) (h + n) (a + b) = true := by
  rw [in_iff] at *; grind
theorem sub_in {l h m n a b : Rat} (ha : inS l h a = true) (hb : inS m n b = true) : inS (l + -n) (h + -m) (a + -b) = true := by
  rw [in_iff] at *; grind
theorem out_in {l h a : Rat} {n : Int} (h1 : 1 ≤ n) (ha : inS l h a = true) : inS (oL l n) (oH h n) a = true := by
  rw [in_iff] at *; have := oL_le (q := l) h1; have := oH_ge (q := h) h1; grind
theorem join_in {l h m n b : Rat} (hb : inS m n b = true) : inS (rmin l m) (rmax h n) b = true := by
  rw [in_iff] at *; unfold rmin rmax; grind
theorem m4_le {p q r s a : Rat} (h : p ≤ a ∨ q ≤ a ∨ r ≤ a ∨ s ≤ a) : rmin (rmin (rmin p q) r) s ≤ a := by unfold rmin; grind
theorem le_x4 {p q r s a : Rat} (h : a ≤ p ∨ a ≤ q ∨ a ≤ r ∨ a ≤ s) : a ≤ rmax (rmax (rmax p q) r) s := by unfold rmax; grind
theorem mul_between {l h b x : Rat} (h1 : l ≤ x) (h2 : x ≤ h) : (l * b ≤ x * b ∨ h * b ≤ x * b) ∧ (x * b ≤ l * b ∨ x * b ≤ h * b) := by
  rcases (show 0 ≤ b ∨ b ≤ 0 by grind) with k | k
  · have := Rat.mul_le_mul_of_nonneg_right h1 k; have := Rat.mul_le_mul_of_nonneg_right h2 k; grind
  · have k' : 0 ≤ -b := by grind
    have := Rat.mul_le_mul_of_nonneg_right h1 k'; have := Rat.mul_le_mul_of_nonneg_right h2 k'; grind
theorem mul_in {l h m n a b : Rat} (ha : inS l h a = true) (hb : inS m n b = true) :
    inS (rmin (rmin (rmin (l * m) (l * n)) (h * m)) (h * n)) (rmax (rmax (rmax (l * m) (l * n)) (h * m)) (h * n)) (a * b) = true := by
  rw [in_iff] at *
  have k1 := mul_between (b := b) ha.1 ha.2
  have k2 := mul_between (b := l) hb.1 hb.2
  have k3 := mul_between (b := h) hb.1 hb.2
  rw [Rat.mul_comm m l, Rat.mul_comm b l, Rat.mul_comm n l] at k2
  rw [Rat.mul_comm m h, Rat.mul_comm b h, Rat.mul_comm n h] at k3
  constructor
  · refine m4_le ?_; grind
  · refine le_x4 ?_; grind
theorem inv_in {m n b : Rat} (hb : inS m n b = true) (h0 : inS m n ((0 : Int) : Rat) = false) : inS n⁻¹ m⁻¹ b⁻¹ = true ∧ b ≠ 0 := by
  have e0 : ((0 : Int) : Rat) = 0 := rfl
  rw [e0] at h0
  have h0' : ¬ (m ≤ 0 ∧ 0 ≤ n) := by rw [← in_iff, h0]; decide
  rw [in_iff] at *
  have inv : ∀ {x y : Rat}, 0 < x → x ≤ y → y⁻¹ ≤ x⁻¹ := fun {x y} hx hxy => by
    have hy : 0 < y := by grind
    have e : x⁻¹ = 1 / x := by grind
    have e' : y⁻¹ = 1 / y := by grind
    rw [e, e']
    refine Rat.not_lt.1 fun h => ?_
    rw [Rat.lt_div_iff hy, show 1 / x * y = y / x by grind, Rat.div_lt_iff hx] at h; grind
  have hn : ∀ x : Rat, (-x)⁻¹ = -x⁻¹ := fun x => by grind
  refine ⟨?_, by grind⟩
  rcases (show 0 < m ∨ n < 0 by grind) with k | k
  · exact ⟨inv (by grind) hb.2, inv k hb.1⟩
  · have a1 := inv (x := -n) (y := -b) (by grind) (by grind)
    have a2 := inv (x := -b) (y := -m) (by grind) (by grind)
    rw [hn, hn] at a1 a2; grind
theorem div_in {l h m n a b : Rat} (ha : inS l h a = true) (hb : inS m n b = true) (h0 : inS m n ((0 : Int) : Rat) = false) :
    inS (rmin (rmin (rmin (l / m) (l / n)) (h / m)) (h / n)) (rmax (rmax (rmax (l / m) (l / n)) (h / m)) (h / n)) (a / b) = true := by
  have hi := (inv_in hb h0).1
  have k := mul_in ha hi
  rw [in_iff] at k ⊢
  simp only [Rat.div_def]
  constructor
  · refine Rat.le_trans ?_ k.1; unfold rmin; grind
  · refine Rat.le_trans k.2 ?_; unfold rmax; grind
theorem by_bd (k : Int) : Bd 8 1 ((k % 9 : Int) : Rat) := (Bd.int _).mono (by omega) (by decide)
theorem eight_ne : ((8 : Int) : Rat) ≠ 0 := cast_ne1 (by decide)
theorem pt_bd {l h : Rat} (bl : Bd 70 7 l) (bh : Bd 70 7 h) (k : Int) : Bd 82320 2744 (pt l h k) := by
  unfold pt; exact (Bd.add bl (Bd.mul (Bd.div (by_bd k) (Bd.int 8) eight_ne) (Bd.add bh bl.neg))).mono (by decide) (by decide)
theorem m4_le_x4 (p q r s : Rat) : rmin (rmin (rmin p q) r) s ≤ rmax (rmax (rmax p q) r) s := Rat.le_trans (m4_le (a := p) (.inl Rat.le_refl)) (le_x4 (a := p) (.inl Rat.le_refl))
theorem join_le {l h m n : Rat} (a : l ≤ h) : rmin l m ≤ rmax h n := by unfold rmin rmax; grind
end Go.Proofs.Ythflpnpnlpaigaa.Am.Sp
