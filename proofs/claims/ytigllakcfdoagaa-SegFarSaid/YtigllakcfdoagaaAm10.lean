import Derived.Test.YtigllakcfdoagaaAm9
namespace Go.Proofs.Ytigllakcfdoagaa.Am
open Go
/-! ### 21. Loops by induction; shifts by a variable -/
section
variable {C : Ctx} {P : Program} {Q : Exit → St → Prop}
/-- A loop: a family of states with a condition, a measure. -/
theorem al_ind {ι : Type} {x : Code} (I : ι → St) (hyp : ι → Prop) (μ : ι → Nat)
    (round : ∀ i, hyp i → (∀ j, hyp j → μ j < μ i → AL C P x (I j) Q) → AL C P x (I i) Q) (i : ι) (h : hyp i) : AL C P x (I i) Q := by
  have key : ∀ n i, hyp i → μ i < n → AL C P x (I i) Q := by
    intro n
    induction n with
    | zero => intro i _ h; omega
    | succ n ih => intro i hi hn; exact round i hi (fun j hj hm => ih j hj (by omega))
  exact key (μ i + 1) i h (by omega)
end
section
variable {C : Ctx} {P : Program} {ops : Array Oper} {i : Nat} {S : St}
theorem does_shr {t t2 : TypeId} {x y : Operand} {k k2 : IntKind} {a b : Int} (hs : shapeAt ops S i = some (.binOp .shr t x y t2, true)) (hx : ev S x = some (.int k a)) (hy : ev S y = some (.int k2 b)) (hb : 0 ≤ b) (hm : b.toNat ≤ k.bits) :
    Does C P ops i S ⟨[], .int k (Int.fdiv a (2 ^ b.toNat)), []⟩ :=
  .of_run hs fun o ho S' ρ ac w hT _ hr => by
    have h1 := (ev_rel hr (by rw [hT x (by simp [Op.operands])]; exact hx)).eq_of_only (.int _ _)
    have h2 := (ev_rel hr (by rw [hT y (by simp [Op.operands])]; exact hy)).eq_of_only (.int _ _)
    exact ⟨_, w, ρ, .int k (Int.fdiv a (2 ^ b.toNat)), by simp [execOp, ho, h1, h2, eqGuard, binOp, Op.shift, Nat.min_eq_left hm, show ¬ b < 0 by omega], .inl rfl, .int _ _, hr⟩
theorem does_shl {t t2 : TypeId} {x y : Operand} {k k2 : IntKind} {a b : Int} (hs : shapeAt ops S i = some (.binOp .shl t x y t2, true)) (hx : ev S x = some (.int k a)) (hy : ev S y = some (.int k2 b)) (hb : 0 ≤ b) (hm : b.toNat ≤ k.bits) :
    Does C P ops i S ⟨[], .int k (IntKind.wrap k (a * 2 ^ b.toNat)), []⟩ :=
  .of_run hs fun o ho S' ρ ac w hT _ hr => by
    have h1 := (ev_rel hr (by rw [hT x (by simp [Op.operands])]; exact hx)).eq_of_only (.int _ _)
    have h2 := (ev_rel hr (by rw [hT y (by simp [Op.operands])]; exact hy)).eq_of_only (.int _ _)
    exact ⟨_, w, ρ, .int k (IntKind.wrap k (a * 2 ^ b.toNat)), by simp [execOp, ho, h1, h2, eqGuard, binOp, Op.shift, Nat.min_eq_left hm, show ¬ b < 0 by omega], .inl rfl, .int _ _, hr⟩
end
theorem wquo {x s : Int} (h0 : 0 ≤ x) (hb : x ≤ 9223372036854775807) (hs : 0 < s) : IntKind.wrap .i64 (Int.tdiv x s) = x / s := by
  rw [Int.tdiv_eq_ediv_of_nonneg h0]
  have h1 : 0 ≤ x / s := Int.ediv_nonneg h0 (by omega)
  have h2 : x / s ≤ x := Int.ediv_le_self _ h0
  exact wrap_i64 (by omega) (by omega)
theorem wrem {x s : Int} (h0 : 0 ≤ x) : Int.tmod x s = x % s := Int.tmod_eq_emod_of_nonneg h0
theorem bv_nat {x : Int} {w : Nat} (h0 : 0 ≤ x) (hb : x < 2 ^ w) : (BitVec.ofInt w x).toNat = x.toNat := by
  rw [BitVec.toNat_ofInt, Int.emod_eq_of_lt h0 (by exact_mod_cast hb)]
theorem xor_par {m r : Int} (h0 : 0 ≤ m) (hb : m ≤ 4611686018427387904) (hr : r = 0 ∨ r = 1) : Int.tmod (IntKind.wrap .i64 ((BitVec.ofInt 64 m ^^^ BitVec.ofInt 64 r).toNat : Int)) 2 = (m + r) % 2 := by
  have e : (BitVec.ofInt 64 m ^^^ BitVec.ofInt 64 r).toNat = m.toNat ^^^ r.toNat := by
    rw [BitVec.toNat_xor, bv_nat h0 (by omega), bv_nat (by omega) (by omega)]
  have lt : m.toNat ^^^ r.toNat < 2 ^ 63 := Nat.xor_lt_two_pow (by omega) (by omega)
  rw [e, wrap_i64 (by omega) (by omega), wrem (by omega)]
  have p : (m.toNat ^^^ r.toNat).testBit 0 = (m.toNat.testBit 0 ^^ r.toNat.testBit 0) := Nat.testBit_xor _ _ _
  simp only [Nat.testBit_zero] at p
  rcases hr with rfl | rfl
  · simp at p ⊢
    omega
  · have h1 : (1 : Int).toNat % 2 = 1 := by decide
    rw [h1] at p
    simp only [decide_true, Bool.xor_true, ← decide_not, decide_eq_decide] at p
    generalize m.toNat ^^^ Int.toNat 1 = z at *
    omega
theorem shr_div {a : Int} {n : Nat} : Int.fdiv a (2 ^ n) = a / 2 ^ n := Int.fdiv_eq_ediv_of_nonneg _ (Int.pow_nonneg (by decide))
end Go.Proofs.Ytigllakcfdoagaa.Am
