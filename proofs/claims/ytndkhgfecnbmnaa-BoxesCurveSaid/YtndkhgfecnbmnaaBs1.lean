import Derived.Test.YtndkhgfecnbmnaaSp6
import Derived.Test.YtndkhgfecnbmnaaAm19
set_option linter.unusedVariables false
set_option linter.unusedSimpArgs false
namespace Go.Proofs.Ytndkhgfecnbmnaa.Am.Sp
/-! Boxes out of numbers; boxes as sets of points -/
def bxA (xs : List Int) (i : Nat) : Int := xs.getD (4 * i) 0 % 81 - 40
def bxB (xs : List Int) (i : Nat) : Int := xs.getD (4 * i + 1) 0 % 81 - 40
def bxC (xs : List Int) (i : Nat) : Int := bxA xs i + xs.getD (4 * i + 2) 0 % 12
def bxD (xs : List Int) (i : Nat) : Int := bxB xs i + xs.getD (4 * i + 3) 0 % 12
def bxc (xs : List Int) (i : Nat) : List Value := [.int .i64 (bxA xs i), .int .i64 (bxB xs i), .int .i64 (bxC xs i), .int .i64 (bxD xs i)]
theorem bx_bd (xs : List Int) (i : Nat) : ((-40 ≤ bxA xs i ∧ bxA xs i ≤ 40) ∧ (-40 ≤ bxB xs i ∧ bxB xs i ≤ 40)) ∧ ((bxA xs i ≤ bxC xs i ∧ bxC xs i ≤ bxA xs i + 11) ∧ (bxB xs i ≤ bxD xs i ∧ bxD xs i ≤ bxB xs i + 11)) := by
  unfold bxC bxD
  have a : -40 ≤ bxA xs i ∧ bxA xs i ≤ 40 := by unfold bxA; omega
  have b : -40 ≤ bxB xs i ∧ bxB xs i ≤ 40 := by unfold bxB; omega
  omega
theorem boxes_len {xs : List Int} {n : Int} (h : mn (Int.tdiv (xs.length : Int) 4) 12 = n) : 4 * n ≤ (xs.length : Int) ∧ 0 ≤ n ∧ n ≤ 12 := by
  have e : Int.tdiv (xs.length : Int) 4 = (xs.length : Int) / 4 := Int.tdiv_eq_ediv_of_nonneg (by omega)
  rw [e] at h
  unfold mn at h
  split at h <;> omega
/-- a point of the box p in the columns below i that is in q -/
def CM (a b c d e f g h i : Int) : Prop := ∃ u v : Int, (a ≤ u ∧ u < i) ∧ (b ≤ v ∧ v ≤ d) ∧ inbox e f g h u v = true
def CI (a b c d e f g h i k : Int) : Prop := CM a b c d e f g h i ∨ ∃ v : Int, (b ≤ v ∧ v < k) ∧ inbox e f g h i v = true
theorem cm_0 {a b c d e f g h : Int} {x : Bool} (hx : x = false) : x = true ↔ CM a b c d e f g h a := by
  subst hx
  constructor
  · intro q; cases q
  · rintro ⟨u, v, h1, _⟩; omega
theorem ci_0 {a b c d e f g h i : Int} {x : Bool} (hx : x = true ↔ CM a b c d e f g h i) : x = true ↔ CI a b c d e f g h i b := by
  rw [hx]
  constructor
  · intro q; exact .inl q
  · rintro (q | ⟨v, h1, _⟩)
    · exact q
    · omega
theorem ci_t {a b c d e f g h i k : Int} {x : Bool} (hx : x = true ↔ CI a b c d e f g h i k) (t : x = true) : true = true ↔ CI a b c d e f g h i (k + 1) := by
  constructor
  · intro _
    rcases hx.1 t with q | ⟨v, h1, h2⟩
    · exact .inl q
    · exact .inr ⟨v, by omega, h2⟩
  · intro _; rfl
theorem ci_f {a b c d e f g h i k : Int} {x : Bool} (hx : x = true ↔ CI a b c d e f g h i k) (t : x = false) (hk : b ≤ k) : inbox e f g h i k = true ↔ CI a b c d e f g h i (k + 1) := by
  constructor
  · intro q; exact .inr ⟨k, by omega, q⟩
  · rintro (q | ⟨v, h1, h2⟩)
    · have := hx.2 (.inl q); rw [t] at this; cases this
    · rcases (show v < k ∨ v = k by omega) with z | z
      · have := hx.2 (.inr ⟨v, by omega, h2⟩); rw [t] at this; cases this
      · rw [← z]; exact h2
theorem cm_next {a b c d e f g h i k : Int} {x : Bool} (hx : x = true ↔ CI a b c d e f g h i k) (hk : k = d + 1) (hi : a ≤ i) : x = true ↔ CM a b c d e f g h (i + 1) := by
  rw [hx]
  constructor
  · rintro (⟨u, v, h1, h2, h3⟩ | ⟨v, h1, h2⟩)
    · exact ⟨u, v, by omega, h2, h3⟩
    · exact ⟨i, v, by omega, by omega, h2⟩
  · rintro ⟨u, v, h1, h2, h3⟩
    rcases (show u < i ∨ u = i by omega) with z | z
    · exact .inl ⟨u, v, by omega, h2, h3⟩
    · subst z; exact .inr ⟨v, by omega, h3⟩
theorem inbox_iff' (lx ly hx hy px py : Int) : inbox lx ly hx hy px py = true ↔ (lx ≤ px ∧ px ≤ hx) ∧ (ly ≤ py ∧ py ≤ hy) := by
  unfold inbox; simp [and_assoc]
theorem cm_meet {a b c d e f g h i : Int} {x : Bool} (hx : x = true ↔ CM a b c d e f g h i) (hi : i = c + 1) : x = meet a b c d e f g h := by
  rw [Bool.eq_iff_iff, hx, meet_eq, Bool.and_eq_true, decide_eq_true_eq, decide_eq_true_eq]
  constructor
  · rintro ⟨u, v, h1, h2, h3⟩
    rw [inbox_iff'] at h3
    unfold mx mn; constructor <;> (repeat' split) <;> omega
  · rintro ⟨h1, h2⟩
    refine ⟨mx a e, mx b f, ?_, ?_, (inbox_iff' ..).2 ⟨?_, ?_⟩⟩ <;> (unfold mx mn at *; (repeat' split at *) <;> omega)
theorem meet_comm' (a b c d e f g h : Int) : meet e f g h a b c d = meet a b c d e f g h := by
  have m1 : ∀ x y, mx x y = mx y x := fun x y => by unfold mx; (repeat' split) <;> omega
  have m2 : ∀ x y, mn x y = mn y x := fun x y => by unfold mn; (repeat' split) <;> omega
  rw [meet_eq, meet_eq, m1 e a, m1 f b, m2 g c, m2 h d]
theorem bok_small {a b c d : Int} (h : ((-40 ≤ a ∧ a ≤ 40) ∧ (-40 ≤ b ∧ b ≤ 40)) ∧ ((a ≤ c ∧ c ≤ a + 11) ∧ (b ≤ d ∧ d ≤ b + 11))) : bok a b c d = true := by
  unfold bok okb
  rw [lim_id (by omega) (by omega), lim_id (by omega) (by omega), lim_id (by omega) (by omega), lim_id (by omega) (by omega)]
  simp; omega
theorem join_has {a b c d e f g h x y : Int} (q : inbox a b c d x y = true ∨ inbox e f g h x y = true) : inbox (mn a e) (mn b f) (mx c g) (mx d h) x y = true := by
  rw [inbox_iff', inbox_iff'] at q
  rw [inbox_iff']
  unfold mn mx
  constructor <;> constructor <;> (repeat' split) <;> omega
theorem grow_has {a b c d k x y : Int} (hk : 0 ≤ k) (q : inbox a b c d x y = true) : inbox (a - k) (b - k) (c + k) (d + k) x y = true := by
  rw [inbox_iff'] at *; omega
theorem grow_k {k : Int} (h0 : -30 ≤ k) (h1 : k ≤ 30) : mx (-4194304) (mn k 4194304) = k := by unfold mx mn; (repeat' split) <;> omega
theorem lim_small {x : Int} (h0 : -1000 ≤ x) (h1 : x ≤ 1000) : lim 1048576 x = x := lim_id (by omega) (by omega)
theorem mn_self' (a : Int) : mn a a = a := by unfold mn; split <;> rfl
theorem mx_self' (a : Int) : mx a a = a := by unfold mx; split <;> rfl
theorem bxo_two (ax ay cx cy : Int) : bxo [(ax, ay), (cx, cy)] [(ax, ay), (cx, cy)].length = (mn (lim 1048576 ax) (lim 1048576 cx), mn (lim 1048576 ay) (lim 1048576 cy), mx (lim 1048576 ax) (lim 1048576 cx), mx (lim 1048576 ay) (lim 1048576 cy)) := by
  show bxo [(ax, ay), (cx, cy)] (1 + 1) = _
  rw [bxo_next (by decide), show bxo [(ax, ay), (cx, cy)] 1 = _ from bxo_first rfl]
  simp only [mn_self', mx_self']
  rfl
theorem mn_lo {a b : Int} (h : a ≤ b) : mn a b = a := by unfold mn; split <;> omega
theorem mx_hi {a b : Int} (h : a ≤ b) : mx a b = b := by unfold mx; split <;> omega
end Go.Proofs.Ytndkhgfecnbmnaa.Am.Sp

