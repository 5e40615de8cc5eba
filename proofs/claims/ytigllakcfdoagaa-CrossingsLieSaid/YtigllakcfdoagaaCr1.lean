import Derived.Test.YtigllakcfdoagaaSq6
set_option linter.unusedVariables false
set_option linter.unusedSimpArgs false
namespace Go.Proofs.Ytigllakcfdoagaa.Am.Sp
/-! A point that two segments share -/
theorem le_sides {a b : Int} : a * b ≤ 0 ↔ (a ≤ 0 ∧ 0 ≤ b) ∨ (0 ≤ a ∧ b ≤ 0) := by
  constructor
  · intro h; have := sides h; omega
  · rintro (⟨h, k⟩ | ⟨h, k⟩)
    · exact Int.mul_nonpos_of_nonpos_of_nonneg h k
    · exact Int.mul_nonpos_of_nonneg_of_nonpos h k
theorem lin4 {u v u' v' : Int} (h1 : u * u' ≤ 0) (h2 : v * v' ≤ 0) (h3 : u * v ≤ 0) (h4 : u' * v' ≤ 0) (h5 : u * v' = v * u') : (u - v) * (u' - v') ≤ 0 := by
  have key : 0 ≤ u * v' := by
    rcases Int.lt_or_le (u * v') 0 with k | k
    · have s := le_sides.1 (show u * v' ≤ 0 by omega)
      rw [le_sides] at h1 h2 h3 h4
      have hu : u ≠ 0 := by rintro rfl; simp at k
      have hv : v' ≠ 0 := by rintro rfl; simp at k
      have : v = 0 := by omega
      subst this
      simp at h5; omega
    · exact k
  have e : (u - v) * (u' - v') = u * u' + v * v' - u * v' - v * u' := by grind
  omega
theorem on_at {ax ay bx b_y px py x y : Int} (h : onb ax ay bx b_y px py = true) : crs ax ay bx b_y x y = crs px py bx b_y x y - crs px py ax ay x y := by
  have h1 := onb_crs h
  unfold crs at *
  grind
theorem both_prod {ax ay bx b_y cx cy dx dy px py : Int} (h1 : onb ax ay bx b_y px py = true) (h2 : onb cx cy dx dy px py = true) : crs ax ay bx b_y cx cy * crs ax ay bx b_y dx dy ≤ 0 := by
  rw [on_at h1, on_at h1]
  have l := onb_crs h1
  have c1 := on_prod (qx := bx) (qy := b_y) h2
  have c2 := on_prod (qx := ax) (qy := ay) h2
  have c3 := on_prod (qx := cx) (qy := cy) h1
  have c4 := on_prod (qx := dx) (qy := dy) h1
  have f : ∀ x y z w : Int, crs px py x y z w = - crs px py z w x y := by intro x y z w; unfold crs; grind
  refine lin4 c1 c2 ?_ ?_ ?_
  · rw [f bx b_y, f ax ay, Int.neg_mul_neg, Int.mul_comm]; exact c3
  · rw [f bx b_y, f ax ay, Int.neg_mul_neg, Int.mul_comm]; exact c4
  · unfold crs at *; grind
theorem sq_pos {x y : Int} (h : ¬ (x = 0 ∧ y = 0)) : 0 < x * x + y * y := by
  have a := sqr_nonneg x; have b := sqr_nonneg y
  have k : ∀ z : Int, z ≠ 0 → 0 < z * z := by
    intro z hz
    rcases Int.lt_or_le 0 z with q | q
    · exact Int.mul_pos q q
    · exact Int.mul_pos_of_neg_of_neg (by omega) (by omega)
  rcases (show x ≠ 0 ∨ y ≠ 0 by omega) with q | q
  · have := k x q; omega
  · have := k y q; omega
theorem zero_of {x n : Int} (hn : 0 < n) (h : x * n = 0) : x = 0 := by
  rcases Int.mul_eq_zero.1 h with k | k
  · exact k
  · omega
theorem par_tr {vx vy ux uy wx wy : Int} (hn : 0 < wx * wx + wy * wy) (h1 : vx * wy - vy * wx = 0) (h2 : ux * wy - uy * wx = 0) : vx * uy - vy * ux = 0 :=
  zero_of hn (by
    have e : (vx * uy - vy * ux) * (wx * wx + wy * wy) = (vx * wy - vy * wx) * (ux * wx + uy * wy) - (ux * wy - uy * wx) * (vx * wx + vy * wy) := by grind
    rw [e, h1, h2]; simp)
theorem sgn_of {x n s : Int} (hn : 0 < n) (h : x * n = s) : x ≤ 0 ↔ s ≤ 0 := by
  subst h
  constructor
  · intro k; exact Int.mul_nonpos_of_nonpos_of_nonneg k (by omega)
  · intro k; rcases Int.lt_or_le 0 x with q | q
    · have := Int.mul_pos q hn; omega
    · exact q
/-- on a line through p with the direction u: a point between two others -/
theorem on_coll {px py ux uy yx yy zx zy x y : Int} (hn : 0 < ux * ux + uy * uy) (cy : (yx - px) * uy - (yy - py) * ux = 0) (cz : (zx - px) * uy - (zy - py) * ux = 0) (cx : (x - px) * uy - (y - py) * ux = 0) :
    onb yx yy zx zy x y = true ↔ ((yx - px) * ux + (yy - py) * uy - ((x - px) * ux + (y - py) * uy)) * ((zx - px) * ux + (zy - py) * uy - ((x - px) * ux + (y - py) * uy)) ≤ 0 := by
  rw [onb_iff]
  have d1 : (yx - x) * uy - (yy - y) * ux = 0 := by grind
  have d2 : (zx - x) * uy - (zy - y) * ux = 0 := by grind
  have h1 : crs yx yy zx zy x y = 0 := by
    have := par_tr hn d1 d2
    unfold crs; grind
  have h2 : dot x y yx yy zx zy * (ux * ux + uy * uy) = ((yx - px) * ux + (yy - py) * uy - ((x - px) * ux + (y - py) * uy)) * ((zx - px) * ux + (zy - py) * uy - ((x - px) * ux + (y - py) * uy)) := by
    have e : dot x y yx yy zx zy * (ux * ux + uy * uy) = ((yx - x) * ux + (yy - y) * uy) * ((zx - x) * ux + (zy - y) * uy) + ((yx - x) * uy - (yy - y) * ux) * ((zx - x) * uy - (zy - y) * ux) := by unfold dot; grind
    rw [e, d1]; grind
  rw [sgn_of hn h2]
  exact ⟨fun h => h.2, fun h => ⟨h1, h⟩⟩
theorem hi_shr {ax ay bx b_y cx cy dx dy px py ux uy : Int} (hn : 0 < ux * ux + uy * uy) (ca : (ax - px) * uy - (ay - py) * ux = 0) (cb : (bx - px) * uy - (b_y - py) * ux = 0)
    (cc : (cx - px) * uy - (cy - py) * ux = 0) (cd : (dx - px) * uy - (dy - py) * ux = 0) (h1 : onb ax ay bx b_y px py = true) (h2 : onb cx cy dx dy px py = true) :
    ∃ x y, (x, y) ∈ shr ax ay bx b_y cx cy dx dy ∧ 0 ≤ (x - px) * ux + (y - py) * uy ∧ (x - px) * uy - (y - py) * ux = 0 := by
  have cp : (px - px) * uy - (py - py) * ux = 0 := by grind
  have a1 := (on_coll hn ca cb cp).1 h1
  have a2 := (on_coll hn cc cd cp).1 h2
  have k1 := on_coll hn cc cd ca
  have k2 := on_coll hn cc cd cb
  have k3 := on_coll hn ca cb cc
  have k4 := on_coll hn ca cb cd
  have z : (px - px) * ux + (py - py) * uy = 0 := by grind
  rw [z] at a1 a2
  rw [le_sides] at a1 a2
  rw [le_sides] at k1 k2 k3 k4
  generalize ha : (ax - px) * ux + (ay - py) * uy = sa at *
  generalize hb : (bx - px) * ux + (b_y - py) * uy = sb at *
  generalize hc : (cx - px) * ux + (cy - py) * uy = sc at *
  generalize hd : (dx - px) * ux + (dy - py) * uy = sd at *
  have pick : (onb cx cy dx dy ax ay = true ∧ 0 ≤ sa) ∨ (onb cx cy dx dy bx b_y = true ∧ 0 ≤ sb) ∨ (onb ax ay bx b_y cx cy = true ∧ 0 ≤ sc) ∨ (onb ax ay bx b_y dx dy = true ∧ 0 ≤ sd) := by
    rw [k1, k2, k3, k4]
    rcases a1 with ⟨p1, p2⟩ | ⟨p1, p2⟩ <;> rcases a2 with ⟨q1, q2⟩ | ⟨q1, q2⟩
    · rcases Int.le_total sb sd with r | r
      · exact .inr (.inl ⟨.inl (by omega), by omega⟩)
      · exact .inr (.inr (.inr ⟨.inl (by omega), by omega⟩))
    · rcases Int.le_total sb sc with r | r
      · exact .inr (.inl ⟨.inr (by omega), by omega⟩)
      · exact .inr (.inr (.inl ⟨.inl (by omega), by omega⟩))
    · rcases Int.le_total sa sd with r | r
      · exact .inl ⟨.inl (by omega), by omega⟩
      · exact .inr (.inr (.inr ⟨.inr (by omega), by omega⟩))
    · rcases Int.le_total sa sc with r | r
      · exact .inl ⟨.inr (by omega), by omega⟩
      · exact .inr (.inr (.inl ⟨.inr (by omega), by omega⟩))
  rcases pick with ⟨o, s⟩ | ⟨o, s⟩ | ⟨o, s⟩ | ⟨o, s⟩
  · exact ⟨ax, ay, mem_shr.2 (.inl ⟨rfl, o⟩), by rw [ha]; exact s, ca⟩
  · exact ⟨bx, b_y, mem_shr.2 (.inr (.inl ⟨rfl, o⟩)), by rw [hb]; exact s, cb⟩
  · exact ⟨cx, cy, mem_shr.2 (.inr (.inr (.inl ⟨rfl, o⟩))), by rw [hc]; exact s, cc⟩
  · exact ⟨dx, dy, mem_shr.2 (.inr (.inr (.inr ⟨rfl, o⟩))), by rw [hd]; exact s, cd⟩
theorem on_deg {ax ay px py : Int} (h : onb ax ay ax ay px py = true) : px = ax ∧ py = ay := by
  have h2 := ((onb_iff ..).1 h).2
  unfold dot at h2
  have h3 : ¬ ¬ (ax - px = 0 ∧ ay - py = 0) := fun k => by have := sq_pos k; omega
  have h4 : ax - px = 0 ∧ ay - py = 0 := Decidable.not_not.1 h3
  omega
theorem colls {ax ay bx b_y cx cy dx dy px py : Int} (hd : den4 ax ay bx b_y cx cy dx dy = 0) (hc : ¬ (dx - cx = 0 ∧ dy - cy = 0)) (h1 : onb ax ay bx b_y px py = true) (h2 : onb cx cy dx dy px py = true) :
    ((ax - px) * (b_y - ay) - (ay - py) * (bx - ax) = 0 ∧ (bx - px) * (b_y - ay) - (b_y - py) * (bx - ax) = 0) ∧ ((cx - px) * (b_y - ay) - (cy - py) * (bx - ax) = 0 ∧ (dx - px) * (b_y - ay) - (dy - py) * (bx - ax) = 0) := by
  have l1 := onb_crs h1
  have l2 := onb_crs h2
  have hw := sq_pos hc
  have u : (bx - ax) * (dy - cy) - (b_y - ay) * (dx - cx) = 0 := hd
  have v1 : (cx - px) * (dy - cy) - (cy - py) * (dx - cx) = 0 := by unfold crs at l2; grind
  have v2 : (dx - px) * (dy - cy) - (dy - py) * (dx - cx) = 0 := by unfold crs at l2; grind
  refine ⟨⟨?_, ?_⟩, par_tr hw v1 u, par_tr hw v2 u⟩ <;> (unfold crs at l1; grind)
theorem both_pos {ax ay bx b_y cx cy dx dy px py : Int} (h1 : onb ax ay bx b_y px py = true) (h2 : onb cx cy dx dy px py = true) : meetN ax ay bx b_y cx cy dx dy > 0 := by
  rw [← posS_iff]
  unfold posS
  by_cases hd : den4 ax ay bx b_y cx cy dx dy = 0
  · right
    by_cases ha : bx - ax = 0 ∧ b_y - ay = 0
    · obtain rfl : bx = ax := by omega
      obtain rfl : b_y = ay := by omega
      obtain ⟨rfl, rfl⟩ := on_deg h1
      exact .inl h2
    · by_cases hc : dx - cx = 0 ∧ dy - cy = 0
      · obtain rfl : dx = cx := by omega
        obtain rfl : dy = cy := by omega
        obtain ⟨rfl, rfl⟩ := on_deg h2
        exact .inr (.inr (.inl h1))
      · have c := colls hd hc h1 h2
        obtain ⟨x, y, hm, _⟩ := hi_shr (sq_pos ha) c.1.1 c.1.2 c.2.1 c.2.2 h1 h2
        rw [mem_shr] at hm
        rcases hm with ⟨_, h⟩ | ⟨_, h⟩ | ⟨_, h⟩ | ⟨_, h⟩ <;> simp [h]
  · exact .inl ⟨hd, both_prod h1 h2, both_prod h2 h1⟩
theorem both_one {ax ay bx b_y cx cy dx dy px py x y : Int} (h : shr ax ay bx b_y cx cy dx dy = [(x, y)]) (h1 : onb ax ay bx b_y px py = true) (h2 : onb cx cy dx dy px py = true) : x = px ∧ y = py := by
  have hm : (x, y) ∈ shr ax ay bx b_y cx cy dx dy := by rw [h]; simp
  obtain ⟨o1, o2⟩ := shr_on hm
  by_cases hd : den4 ax ay bx b_y cx cy dx dy = 0
  · by_cases ha : bx - ax = 0 ∧ b_y - ay = 0
    · obtain rfl : bx = ax := by omega
      obtain rfl : b_y = ay := by omega
      obtain ⟨rfl, rfl⟩ := on_deg h1
      exact one_is h h1 h2 (by simp)
    · by_cases hc : dx - cx = 0 ∧ dy - cy = 0
      · obtain rfl : dx = cx := by omega
        obtain rfl : dy = cy := by omega
        obtain ⟨rfl, rfl⟩ := on_deg h2
        exact one_is h h1 h2 (by simp)
      · have c := colls hd hc h1 h2
        have hn := sq_pos ha
        obtain ⟨x1, y1, m1, s1, k1⟩ := hi_shr hn c.1.1 c.1.2 c.2.1 c.2.2 h1 h2
        obtain ⟨x2, y2, m2, s2, k2⟩ := hi_shr (ux := -(bx - ax)) (uy := -(b_y - ay)) (by grind) (by have := c.1.1; grind) (by have := c.1.2; grind) (by have := c.2.1; grind) (by have := c.2.2; grind) h1 h2
        rw [h] at m1 m2
        simp only [List.mem_singleton, Prod.mk.injEq] at m1 m2
        obtain ⟨rfl, rfl⟩ := m1
        obtain ⟨rfl, rfl⟩ := m2
        have z : (x2 - px) * (bx - ax) + (y2 - py) * (b_y - ay) = 0 := by
          have e : (x2 - px) * -(bx - ax) + (y2 - py) * -(b_y - ay) = -((x2 - px) * (bx - ax) + (y2 - py) * (b_y - ay)) := by grind
          omega
        have e1 : (x2 - px) * ((bx - ax) * (bx - ax) + (b_y - ay) * (b_y - ay)) = 0 := by
          have e : (x2 - px) * ((bx - ax) * (bx - ax) + (b_y - ay) * (b_y - ay)) = ((x2 - px) * (bx - ax) + (y2 - py) * (b_y - ay)) * (bx - ax) + ((x2 - px) * (b_y - ay) - (y2 - py) * (bx - ax)) * (b_y - ay) := by grind
          rw [e, z, k1]; simp
        have e2 : (y2 - py) * ((bx - ax) * (bx - ax) + (b_y - ay) * (b_y - ay)) = 0 := by
          have e : (y2 - py) * ((bx - ax) * (bx - ax) + (b_y - ay) * (b_y - ay)) = ((x2 - px) * (bx - ax) + (y2 - py) * (b_y - ay)) * (b_y - ay) - ((x2 - px) * (b_y - ay) - (y2 - py) * (bx - ax)) * (bx - ax) := by grind
          rw [e, z, k1]; simp
        have := zero_of hn e1
        have := zero_of hn e2
        omega
  · have l1 := onb_crs h1; have l2 := onb_crs h2; have l3 := onb_crs o1; have l4 := onb_crs o2
    unfold crs at l1 l2 l3 l4
    have f1 : (bx - ax) * (y - py) = (b_y - ay) * (x - px) := by grind
    have f2 : (dx - cx) * (y - py) = (dy - cy) * (x - px) := by grind
    have g1 : (x - px) * den4 ax ay bx b_y cx cy dx dy = 0 := by unfold den4; grind
    have g2 : (y - py) * den4 ax ay bx b_y cx cy dx dy = 0 := by unfold den4; grind
    have k1 := (Int.mul_eq_zero.1 g1).resolve_right hd
    have k2 := (Int.mul_eq_zero.1 g2).resolve_right hd
    omega
theorem both_cp {ax ay bx b_y cx cy dx dy px py : Int} (h : prp ax ay bx b_y cx cy dx dy = true) (h1 : onb ax ay bx b_y px py = true) (h2 : onb cx cy dx dy px py = true) :
    cpx ax ay bx b_y cx cy dx dy = ((px : Int) : Rat) ∧ cpy ax ay bx b_y cx cy dx dy = ((py : Int) : Rat) := by
  have e1 := cp_ab h
  have e2 := cp_cd h
  have hd := ne_rat (prp_den h)
  have l1 := onb_crs h1
  have l2 := onb_crs h2
  unfold crs at l1 l2
  generalize cpx ax ay bx b_y cx cy dx dy = X at *
  generalize cpy ax ay bx b_y cx cy dx dy = Y at *
  have r1 : (((bx - ax : Int) : Int) : Rat) * (((py : Int) : Rat) - ((ay : Int) : Rat)) = (((b_y - ay : Int) : Int) : Rat) * (((px : Int) : Rat) - ((ax : Int) : Rat)) := by
    rw [← Rat.intCast_sub, ← Rat.intCast_sub, ← Rat.intCast_mul, ← Rat.intCast_mul, Rat.intCast_inj]; grind
  have r2 : (((dx - cx : Int) : Int) : Rat) * (((py : Int) : Rat) - ((cy : Int) : Rat)) = (((dy - cy : Int) : Int) : Rat) * (((px : Int) : Rat) - ((cx : Int) : Rat)) := by
    rw [← Rat.intCast_sub, ← Rat.intCast_sub, ← Rat.intCast_mul, ← Rat.intCast_mul, Rat.intCast_inj]; grind
  unfold den4 at hd
  rw [Rat.intCast_sub, Rat.intCast_mul, Rat.intCast_mul] at hd
  generalize ((bx - ax : Int) : Rat) = B at *
  generalize ((b_y - ay : Int) : Rat) = B' at *
  generalize ((dx - cx : Int) : Rat) = D at *
  generalize ((dy - cy : Int) : Rat) = D' at *
  constructor <;> grind
end Go.Proofs.Ytigllakcfdoagaa.Am.Sp

