import Derived.KernelRfl
set_option maxHeartbeats 4000000
set_option linter.unusedVariables false
set_option linter.unusedSimpArgs false
namespace Go.Proofs.Ytadifmimefmcnaa.Am
theorem kK {P : Prop} (h : P := by kernel_rfl) : P := h
theorem aA {P : Prop} (h : P := by assumption) : P := h
theorem dD {P : Prop} (h : P := by decide) : P := h
theorem oO {P : Prop} (h : P := by omega) : P := h
theorem z7 {P : Prop} (h : P := by rw [show (0 + (((i : Nat) : Int)).toNat * 1) = i from oO]; exact s6 (f := boolv) (j := i) false kK kK (by first | omega | (simp only [Sp.yN, Sp.s8, List.length_set, List.length_replicate]; omega))) : P := h
theorem z8 {P : Prop} (h : P := by simp only [Sp.mPre, Sp.eqTo, Sp.g2, *, Bool.true_and, Bool.and_false, Bool.false_and, Bool.or_true, Bool.true_or, Bool.or_false, Bool.false_or, Bool.not_true, Bool.not_false, decide_true, decide_false]; done) : P := h
theorem z10 {P : Prop} (h : P := by simp only [Sp.clC, Sp.eqTo, Sp.g2, *, Bool.true_and, Bool.and_false, Bool.false_and, Bool.or_true, Bool.true_or, Bool.or_false, Bool.false_or, Bool.not_true, Bool.not_false, decide_true, decide_false]; done) : P := h
theorem z11 {P : Prop} (h : P := by simp only [Sp.clA, Sp.eqTo, Sp.g2, *, Bool.true_and, Bool.and_false, Bool.false_and, Bool.or_true, Bool.true_or, Bool.or_false, Bool.false_or, Bool.not_true, Bool.not_false, decide_true, decide_false]; done) : P := h
theorem z12 {P : Prop} (h : P := by show _ + 1 ≤ (((List.replicate qs.length false).set 0 true).map boolv).length; rw [List.length_map]; first | omega | (simp only [Sp.yN, Sp.s8, List.length_set, List.length_replicate]; omega)) : P := h
theorem z13 {P : Prop} (h : P := by show _ + 1 ≤ ((List.replicate qs.length false).map boolv).length; rw [List.length_map]; first | omega | (simp only [Sp.yN, Sp.s8, List.length_set, List.length_replicate]; omega)) : P := h
theorem z14 {P : Prop} (h : P := by simp [wW, valsB, valB, List.all_eq_true, List.mem_flatMap, List.mem_range, List.mem_map, i64v, ptc, boolv, c9]; try (intros; simp [valsB, valB, c9]); try decide) : P := h
theorem z15 {P : Prop} (h : P := by simp [wW, valsB, valB, List.all_eq_true, List.mem_flatMap, List.mem_range, List.mem_map, i64v, ptc, c9]; try (intros; simp [valsB, valB, c9]); try decide) : P := h
theorem z16 {P : Prop} (h : P := by (try (first | rw [show qs.length = i from oO] | rw [show qs = (ps.take i).map Sp.lmP from (by rw [hin, List.take_length, hq])])); kernel_rfl) : P := h
theorem z17 {P : Prop} (h : P := by show (((Sp.nop ++ c.reverse).flatMap ptc)).length = _; rw [pairs_length, List.length_append, List.length_reverse]; omega) : P := h
theorem z18 {P : Prop} (h : P := by show (((bs ++ c.reverse).flatMap ptc)).length = _; rw [pairs_length, List.length_append, List.length_reverse]; omega) : P := h
theorem z19 {P : Prop} (h : P := by (try rw [Sp.slF_ylen (ps := qs) (kp := (Sp.setJ (Sp.kp0 qs.length) J)) (n := i) aA]); kernel_rfl) : P := h
theorem z20 {P : Prop} (h : P := by first | exact Sp.perm_0 aA | exact Sp.perm_1 aA oO | exact Sp.perm_e aA aA | (exfalso; omega)) : P := h
theorem z21 {P : Prop} (h : P := by (try rw [Sp.slF_n (ps := qs) (kp := (Sp.setJ (Sp.kp0 qs.length) J)) (n := i) aA]); kernel_rfl) : P := h
theorem z23 {P : Prop} (h : P := by show ((((ps.take i).map Sp.lmP).flatMap ptc)).length = _; rw [pairs_length]; simp; omega) : P := h
theorem z24 {P : Prop} (h : P := by rw [show (0 + (((u : Nat) : Int)).toNat * 1) = u from oO]; exact cY kK kK oO) : P := h
theorem z26 {P : Prop} (h : P := by rw [show (0 + (((u : Nat) : Int)).toNat * 1) = u from oO]; exact ldV_hd7 kK kK oO) : P := h
theorem z27 {P : Prop} (h : P := by first | omega | (simp only [List.length_append, List.length_reverse]; omega)) : P := h
theorem z28 {P : Prop} (h : P := by first | omega | (simp only [hk, List.length_set, Sp.yN]; omega)) : P := h
theorem z29 {P : Prop} (h : P := by first | omega | (simp only [Sp.yH, List.length_set]; omega)) : P := h
theorem z30 {P : Prop} (h : P := by first | exact Sp.perm_n aA aA | exact Sp.perm_t aA oO aA) : P := h
theorem z31 {P : Prop} (h : P := by first | exact Sp.perm_n aA aA | exact Sp.perm_f aA aA) : P := h
theorem z32 {P : Prop} (h : P := by ((try rw [Sp.stk_len_next _ hpc hst])); kernel_rfl) : P := h
theorem z33 {P : Prop} (h : P := by rw [Sp.bX]; simp only [Sp.wh, Sp.s64]; omega) : P := h
theorem z34 {P : Prop} (h : P := by (try (first | rw [hsl] | rw [← hss])); kernel_rfl) : P := h
theorem z35 {P : Prop} (h : P := by rw [Sp.hasH_3 oO, ← hs, Sp.hasL_out hil hj aA]) : P := h
theorem z36 {P : Prop} (h : P := by rw [Sp.hasH_3 oO, ← hs, Sp.hasL_end hge]) : P := h
theorem z37 {P : Prop} (h : P := by first | assumption | exact Sp.nbt aA) : P := h
theorem z38 {P : Prop} (h : P := by first | assumption | exact Sp.nbf aA) : P := h
theorem z40 {P : Prop} (h : P := by rw [← hq, List.length_map]) : P := h
theorem z41 {P : Prop} (h : P := by rw [hje] at hA; exact hA) : P := h
theorem z42 {P : Prop} (h : P := by rw [hie] at hA; exact hA) : P := h
theorem z43 {P : Prop} (h : P := by show 0 < 1 + _; omega) : P := h
theorem z44 {P : Prop} (h : P := by rw [hhe]; kernel_rfl) : P := h
theorem z47 {P : Prop} (h : P := by intro j; kernel_rfl) : P := h
theorem z48 {P : Prop} (h : P := by first | omega | (simp only [Sp.yN, Sp.s8, List.length_set, List.length_replicate]; omega)) : P := h
theorem pB {P : Prop} {b v : Bool} (h : b = v) (g : b = v → P := by intro h; first | (simpa using h) | (simp at h; omega) | (have q := bx1 h; simp at q; omega) | (have q := bx2 h; simp at q; omega) | (have q := bx3 h; simp at q; omega) | (have q := bx4 h; simp at q; omega)) : P := g h
end Go.Proofs.Ytadifmimefmcnaa.Am
