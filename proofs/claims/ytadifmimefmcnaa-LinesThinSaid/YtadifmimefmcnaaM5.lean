import Derived.Test.YtadifmimefmcnaaM4
import Derived.Test.YtadifmimefmcnaaM3
import Derived.Test.YtadifmimefmcnaaProg
import Derived.Test.YtadifmimefmcnaaM2
import Derived.Test.YtadifmimefmcnaaM0
set_option maxHeartbeats 4000000
set_option linter.unusedVariables false
set_option linter.unusedSimpArgs false
namespace Go.Proofs.Ytadifmimefmcnaa.Am.Sp
theorem tV {l px py qx qy rx ry} (h : addb l px py qx qy rx ry = true) : onb qx qy rx ry px py = true := by
  unfold addb at h; rw [Bool.and_eq_true] at h; exact h.1
theorem fK {l px py qx qy rx ry} (h : addb l px py qx qy rx ry = true) : has2 l px py = false := by
  unfold addb at h; rw [Bool.and_eq_true] at h; simpa using h.2
theorem wC {l : List (Int × Int)} {x y px py : Int} (hm : (x, y) ∈ l) (h : has2 l px py = false) : ((x == px) && ((y == py) && true)) = false := by
  unfold has2 at h
  rw [List.any_eq_false] at h
  have := h _ hm
  simpa using this
theorem cmp3 (ax ay bx b_y cx cy dx dy : Int) : (-1 ≤ cmp (crs ax ay bx b_y cx cy) 0 * cmp (crs ax ay bx b_y dx dy) 0 ∧ cmp (crs ax ay bx b_y cx cy) 0 * cmp (crs ax ay bx b_y dx dy) 0 ≤ 1) ∧
    (-1 ≤ cmp (crs cx cy dx dy ax ay) 0 * cmp (crs cx cy dx dy bx b_y) 0 ∧ cmp (crs cx cy dx dy ax ay) 0 * cmp (crs cx cy dx dy bx b_y) 0 ≤ 1) := by
  have a := qC2 (crs ax ay bx b_y cx cy) 0
  have b := qC2 (crs ax ay bx b_y dx dy) 0
  have c := qC2 (crs cx cy dx dy ax ay) 0
  have d := qC2 (crs cx cy dx dy bx b_y) 0
  have p := yV a.1 a.2 b.1 b.2
  have q := yV c.1 c.2 d.1 d.2
  omega
theorem meetN_one {ax ay bx b_y cx cy dx dy x y : Int} (h : shr ax ay bx b_y cx cy dx dy = [(x, y)]) : qX ax ay bx b_y cx cy dx dy = 1 := by
  unfold qX; rw [h]
  split <;> rfl
def sqn (px py ax ay bx b_y : Int) : Int := if dot ax ay bx b_y px py ≤ 0 then dot ax ay px py px py else if dot ax ay bx b_y px py ≥ dot ax ay bx b_y bx b_y then dot bx b_y px py px py else crs ax ay bx b_y px py * crs ax ay bx b_y px py
def sqd (px py ax ay bx b_y : Int) : Int := if dot ax ay bx b_y px py ≤ 0 then 1 else if dot ax ay bx b_y px py ≥ dot ax ay bx b_y bx b_y then 1 else dot ax ay bx b_y bx b_y
theorem sq_cases (px py ax ay bx b_y : Int) :
    (dot ax ay bx b_y px py ≤ 0 → dot ax ay px py px py = sqn px py ax ay bx b_y ∧ 1 = sqd px py ax ay bx b_y) ∧
    (¬ dot ax ay bx b_y px py ≤ 0 → dot ax ay bx b_y px py ≥ dot ax ay bx b_y bx b_y → dot bx b_y px py px py = sqn px py ax ay bx b_y ∧ 1 = sqd px py ax ay bx b_y) ∧
    (¬ dot ax ay bx b_y px py ≤ 0 → ¬ dot ax ay bx b_y px py ≥ dot ax ay bx b_y bx b_y → crs ax ay bx b_y px py * crs ax ay bx b_y px py = sqn px py ax ay bx b_y ∧ dot ax ay bx b_y bx b_y = sqd px py ax ay bx b_y) := by
  unfold sqn sqd
  refine ⟨fun h => ?_, fun h k => ?_, fun h k => ?_⟩
  · rw [if_pos h, if_pos h]; exact ⟨rfl, rfl⟩
  · rw [if_neg h, if_neg h, if_pos k, if_pos k]; exact ⟨rfl, rfl⟩
  · rw [if_neg h, if_neg h, if_neg k, if_neg k]; exact ⟨rfl, rfl⟩
theorem dist_num (px py ax ay bx b_y : Int) : dot ax ay px py px py * dot ax ay bx b_y bx b_y - dot ax ay bx b_y px py * dot ax ay bx b_y px py = crs ax ay bx b_y px py * crs ax ay bx b_y px py := by
  have := lagrange ax ay bx b_y px py
  have e := Int.mul_comm (dot ax ay px py px py) (dot ax ay bx b_y bx b_y)
  omega
theorem nZ {ax ay px py : Int} (axl : -1048576 ≤ ax) (axu : ax ≤ 1048576) (ayl : -1048576 ≤ ay) (ayu : ay ≤ 1048576) (pxl : -1048576 ≤ px) (pxu : px ≤ 1048576) (pyl : -1048576 ≤ py) (pyu : py ≤ 1048576) :
    0 ≤ dot ax ay px py px py ∧ dot ax ay px py px py ≤ 8796093022208 := by
  refine ⟨qEJ .., ?_⟩
  unfold dot
  have p1 := yV (a := px - ax) (b := px - ax) (A := 2097152) (B := 2097152) (by omega) (by omega) (by omega) (by omega)
  have p2 := yV (a := py - ay) (b := py - ay) (A := 2097152) (B := 2097152) (by omega) (by omega) (by omega) (by omega)
  omega
theorem sq_all {px py ax ay bx b_y : Int} (pxl : -1048576 ≤ px) (pxu : px ≤ 1048576) (pyl : -1048576 ≤ py) (pyu : py ≤ 1048576)
    (axl : -1048576 ≤ ax) (axu : ax ≤ 1048576) (ayl : -1048576 ≤ ay) (ayu : ay ≤ 1048576) (bxl : -1048576 ≤ bx) (bxu : bx ≤ 1048576) (b_yl : -1048576 ≤ b_y) (b_yu : b_y ≤ 1048576) :
    (0 ≤ sqn px py ax ay bx b_y ∧ sqn px py ax ay bx b_y ≤ 8796093022208 * sqd px py ax ay bx b_y) ∧ (1 ≤ sqd px py ax ay bx b_y ∧ sqd px py ax ay bx b_y ≤ 8796093022208) := by
  have d1 := nZ axl axu ayl ayu pxl pxu pyl pyu
  have d2 := nZ bxl bxu b_yl b_yu pxl pxu pyl pyu
  have d3 := nZ axl axu ayl ayu bxl bxu b_yl b_yu
  unfold sqn sqd
  split
  · omega
  · split
    · omega
    · have l := dist_num px py ax ay bx b_y
      have s1 := yC (crs ax ay bx b_y px py)
      have s2 := yC (dot ax ay bx b_y px py)
      have m := Int.mul_le_mul_of_nonneg_right d1.2 d3.1
      omega
theorem sq_bd (px py ax ay bx b_y : Int) (pxl : -1048576 ≤ px) (pxu : px ≤ 1048576) (pyl : -1048576 ≤ py) (pyu : py ≤ 1048576)
    (axl : -1048576 ≤ ax) (axu : ax ≤ 1048576) (ayl : -1048576 ≤ ay) (ayu : ay ≤ 1048576) (bxl : -1048576 ≤ bx) (bxu : bx ≤ 1048576) (b_yl : -1048576 ≤ b_y) (b_yu : b_y ≤ 1048576) :
    (0 ≤ sqn px py ax ay bx b_y ∧ sqn px py ax ay bx b_y ≤ 77371252455336267181195264) ∧ (1 ≤ sqd px py ax ay bx b_y ∧ sqd px py ax ay bx b_y ≤ 8796093022208) := by
  have h := sq_all pxl pxu pyl pyu axl axu ayl ayu bxl bxu b_yl b_yu
  omega
def wthn (px py ax ay bx b_y k : Int) : Bool := decide (0 ≤ k) && decide (sqn px py ax ay bx b_y ≤ mn k 4194304 * mn k 4194304 * sqd px py ax ay bx b_y)
theorem eW {px py ax ay bx b_y k : Int} (h : mn k 4194304 < 0) : wthn px py ax ay bx b_y k = false := by
  unfold wthn; rw [decide_eq_false (by unfold mn at h; split at h <;> omega)]; rfl
theorem eV {px py ax ay bx b_y k : Int} (h : ¬ mn k 4194304 < 0) : wthn px py ax ay bx b_y k = decide (sqn px py ax ay bx b_y ≤ mn k 4194304 * mn k 4194304 * sqd px py ax ay bx b_y) := by
  unfold wthn; rw [decide_eq_true (by unfold mn at h; split at h <;> omega)]; rfl
theorem mE (a b : Int) : decide (cmp a b ≤ 0) = decide (a ≤ b) := by rw [Bool.eq_iff_iff, decide_eq_true_eq, decide_eq_true_eq]; exact cmp_le a b
theorem mn_by (k : Int) : mn k 4194304 ≤ 4194304 ∧ (¬ mn k 4194304 < 0 → (0 ≤ mn k 4194304 * mn k 4194304 ∧ mn k 4194304 * mn k 4194304 ≤ 17592186044416)) := by
  have h : mn k 4194304 ≤ 4194304 := by unfold mn; split <;> omega
  refine ⟨h, fun h0 => ?_⟩
  have := yV (a := mn k 4194304) (b := mn k 4194304) (A := 4194304) (B := 4194304) (by omega) (by omega) (by omega) (by omega)
  have := yC (mn k 4194304)
  omega
theorem mn_sq (k d : Int) (h0 : 1 ≤ d) (h1 : d ≤ 8796093022208) : ¬ mn k 4194304 < 0 → (0 ≤ mn k 4194304 * mn k 4194304 * d ∧ mn k 4194304 * mn k 4194304 * d ≤ 154742504910672534362390528) := by
  intro h
  have a := (mn_by k).2 h
  generalize mn k 4194304 * mn k 4194304 = x at *
  have b := Int.mul_nonneg a.1 (show 0 ≤ d by omega)
  have c := Int.mul_le_mul_of_nonneg_right a.2 (show 0 ≤ d by omega)
  omega
end Go.Proofs.Ytadifmimefmcnaa.Am.Sp
namespace Go.Proofs.Ytadifmimefmcnaa.Am.Sp
end Go.Proofs.Ytadifmimefmcnaa.Am.Sp
namespace Go.Proofs.Ytadifmimefmcnaa.Am.Sp
def cA (ps : List (Int × Int)) (i : Nat) : Int := lim 1048576 (ps.getD i (0, 0)).1
def cB (ps : List (Int × Int)) (i : Nat) : Int := lim 1048576 (ps.getD i (0, 0)).2
variable {ax ay bx b_y x y : Int}
theorem jV {l : List (Int × Int)} {i : Nat} {d : Int × Int} (h : i < l.length) : l.getD i d = l[i] := by simp [List.getD, h]
theorem getD_mem {ps : List (Int × Int)} {q : Int × Int} (h : q ∈ ps) : ∃ i, ps.getD i (0, 0) = q := by
  obtain ⟨i, hi, e⟩ := List.mem_iff_getElem.1 h
  exact ⟨i, by rw [jV hi, e]⟩
theorem take_snoc {f : Int × Int → Int × Int} {ps : List (Int × Int)} {i : Nat} (h : i < ps.length) : (ps.take (i + 1)).map f = (ps.take i).map f ++ [f (ps.getD i (0, 0))] := by
  rw [List.take_succ_eq_append_getElem h, List.map_append, jV h]; rfl
theorem y5 {f : Int × Int → Int × Int} {ps : List (Int × Int)} {i : Nat} {l : List Value} (h : i < ps.length) (hl : ptc (f (ps.getD i (0, 0))) = l) : ((ps.take i).map f).flatMap ptc ++ l = ((ps.take (i + 1)).map f).flatMap ptc := by
  rw [take_snoc h, List.flatMap_append, ← hl]; simp
/-- all coordinates are small -/
def Few (m : Int) (ps : List (Int × Int)) : Prop := ∀ i, (-m ≤ (ps.getD i (0, 0)).1 ∧ (ps.getD i (0, 0)).1 ≤ m) ∧ (-m ≤ (ps.getD i (0, 0)).2 ∧ (ps.getD i (0, 0)).2 ≤ m)
theorem uB {m : Int} {ps : List (Int × Int)} (hm : 0 ≤ m) (h : ∀ q ∈ ps, (-m ≤ q.1 ∧ q.1 ≤ m) ∧ (-m ≤ q.2 ∧ q.2 ≤ m)) : Few m ps := by
  intro i
  by_cases hi : i < ps.length
  · rw [jV hi]; exact h _ (List.getElem_mem hi)
  · simp [List.getD, List.getElem?_eq_none (Nat.le_of_not_lt hi)]; omega
theorem wS {m : Int} {ps : List (Int × Int)} (h : Few m ps) {q : Int × Int} (hq : q ∈ ps) : (-m ≤ q.1 ∧ q.1 ≤ m) ∧ (-m ≤ q.2 ∧ q.2 ≤ m) := by
  obtain ⟨i, e⟩ := getD_mem hq
  rw [← e]; exact h i
/-- twice the area, as the code adds it up: from the corner k on -/
def twF (ps : List (Int × Int)) (k : Nat) (s : Int) : Int :=
  if k + 1 < ps.length then twF ps (k + 1) (IntKind.wrap .i64 (s + crs (cA ps 0) (cB ps 0) (cA ps k) (cB ps k) (cA ps (k + 1)) (cB ps (k + 1)))) else s
termination_by ps.length - k
theorem twF_end {ps : List (Int × Int)} {k : Nat} {s : Int} (h : ¬ k + 1 < ps.length) : twF ps k s = s := by rw [twF, if_neg h]
theorem dL {β : Type} {l l' : List β} {i : Nat} {x : β} (h : i < l.length) : (l ++ l').getD i x = l.getD i x := by
  rw [List.getD_eq_getElem?_getD, List.getD_eq_getElem?_getD, List.getElem?_append_left h]
theorem dK {β : Type} {l l' : List β} {i : Nat} {x : β} (h : l.length ≤ i) : (l ++ l').getD i x = l'.getD (i - l.length) x := by
  rw [List.getD_eq_getElem?_getD, List.getD_eq_getElem?_getD, List.getElem?_append_right h]
section
variable {α : Type} {W : α → α → α → Bool} {d : α → α → α → Int} {z : α}
/-- the first of those points between two that are not near, and farthest -/
def Best (W : α → α → α → Bool) (d : α → α → α → Int) (z : α) (l : List α) (f t m : Nat) : Prop :=
  (f < m ∧ m < t) ∧ W (l.getD m z) (l.getD f z) (l.getD t z) = false ∧
    ∀ i, f < i → i < t → W (l.getD i z) (l.getD f z) (l.getD t z) = false → d (l.getD i z) (l.getD f z) (l.getD t z) ≤ d (l.getD m z) (l.getD f z) (l.getD t z) ∧ (i < m → d (l.getD i z) (l.getD f z) (l.getD t z) < d (l.getD m z) (l.getD f z) (l.getD t z))
inductive Thin (W : α → α → α → Bool) (d : α → α → α → Int) (z : α) (l : List α) : Nat → Nat → List Nat → Prop
  | nil {f t : Nat} (h : f < t) (hn : ∀ i, f < i → i < t → W (l.getD i z) (l.getD f z) (l.getD t z) = true) : Thin W d z l f t []
  | cons {f m t : Nat} {J K : List Nat} (h : Best W d z l f t m) (h1 : Thin W d z l f m J) (h2 : Thin W d z l m t K) : Thin W d z l f t (J ++ m :: K)
theorem Best.uniq {l : List α} {f t m m' : Nat} (h : Best W d z l f t m) (h' : Best W d z l f t m') : m = m' := by
  have a := h.2.2 m' h'.1.1 h'.1.2 h'.2.1
  have b := h'.2.2 m h.1.1 h.1.2 h.2.1
  rcases Nat.lt_trichotomy m m' with c | c | c
  · have := b.2 c; omega
  · exact c
  · have := a.2 c; omega
theorem Thin.lt {l : List α} {f t : Nat} {J : List Nat} (h : Thin W d z l f t J) : f < t := by
  cases h with
  | nil h _ => exact h
  | cons h _ _ => have := h.1; omega
/-- what is kept is strictly between, and rises -/
theorem Thin.rise {l : List α} {f t : Nat} {J : List Nat} (h : Thin W d z l f t J) : (∀ j ∈ J, f < j ∧ j < t) ∧ J.Pairwise (· < ·) := by
  induction h with
  | nil h hn => exact ⟨by simp, .nil⟩
  | @cons f m t J K h h1 h2 i1 i2 =>
    have a := h.1
    refine ⟨fun j hj => ?_, ?_⟩
    · rcases List.mem_append.1 hj with q | q
      · have := i1.1 j q; omega
      · rcases List.mem_cons.1 q with rfl | q
        · exact a
        · have := i2.1 j q; omega
    · refine List.pairwise_append.2 ⟨i1.2, List.pairwise_cons.2 ⟨fun j q => (i2.1 j q).1, i2.2⟩, fun x hx y hy => ?_⟩
      have := i1.1 x hx
      rcases List.mem_cons.1 hy with rfl | q
      · omega
      · have := i2.1 y q; omega
/-- every point between is kept, or near the edge over it -/
theorem Thin.near {l : List α} {f t : Nat} {J : List Nat} (h : Thin W d z l f t J) : ∀ i, f < i → i < t → i ∈ J ∨ ∃ k, k ≤ J.length ∧ W (l.getD i z) (l.getD ((f :: (J ++ [t])).getD k 0) z) (l.getD ((f :: (J ++ [t])).getD (k + 1) 0) z) = true := by
  induction h with
  | nil h hn => intro i a b; exact .inr ⟨0, Nat.le_refl _, hn i a b⟩
  | @cons f m t J K h h1 h2 i1 i2 =>
    intro i a b
    rcases Nat.lt_trichotomy i m with c | c | c
    · rcases i1 i a c with q | ⟨k, hk, q⟩
      · exact .inl (List.mem_append.2 (.inl q))
      · refine .inr ⟨k, by simp; omega, ?_⟩
        have e1 : (f :: (J ++ m :: K ++ [t])).getD k 0 = (f :: (J ++ [m])).getD k 0 := by
          cases k with
          | zero => rfl
          | succ k => simp only [List.getD_cons_succ, List.append_assoc]; rw [dL (by omega), dL (by omega)]
        have e2 : (f :: (J ++ m :: K ++ [t])).getD (k + 1) 0 = (f :: (J ++ [m])).getD (k + 1) 0 := by
          simp only [List.getD_cons_succ, List.append_assoc]
          rcases Nat.lt_or_ge k J.length with g | g
          · rw [dL g, dL g]
          · obtain rfl : k = J.length := by omega
            rw [dK (l := J) (by omega), dK (l := J) (by omega)]; simp
        rw [e1, e2]; exact q
    · exact .inl (by subst c; simp)
    · rcases i2 i c b with q | ⟨k, hk, q⟩
      · exact .inl (List.mem_append.2 (.inr (List.mem_cons_of_mem _ q)))
      · refine .inr ⟨J.length + 1 + k, by simp; omega, ?_⟩
        have e : ∀ k, (f :: (J ++ m :: K ++ [t])).getD (J.length + 1 + k) 0 = (m :: (K ++ [t])).getD k 0 := by
          intro k
          rw [show J.length + 1 + k = (J.length + k) + 1 by omega, List.getD_cons_succ, List.append_assoc, dK (by omega), show J.length + k - J.length = k by omega]; simp
        rw [e k, show J.length + 1 + k + 1 = J.length + 1 + (k + 1) by omega, e (k + 1)]; exact q
end
def dq (px py ax ay bx b_y : Int) : Int := sqn px py ax ay bx b_y * Int.tdiv (mx 1 (dot ax ay bx b_y bx b_y)) (sqd px py ax ay bx b_y)
def farB (px py qx qy ax ay bx b_y : Int) : Bool := decide (dq qx qy ax ay bx b_y < dq px py ax ay bx b_y)
def wtP (tol : Int) (p a b : Int × Int) : Bool := wthn p.1 p.2 a.1 a.2 b.1 b.2 (mx tol 0)
def dqP (p a b : Int × Int) : Int := dq p.1 p.2 a.1 a.2 b.1 b.2
def u4 (ps : List (Int × Int)) (tol : Int) (f t : Nat) (J : List Nat) : Prop := Thin (wtP tol) dqP (0, 0) ps f t J
def wq (ps : List (Int × Int)) (tol : Int) (f t i : Nat) : Bool := wthn (ps.getD i (0, 0)).1 (ps.getD i (0, 0)).2 (ps.getD f (0, 0)).1 (ps.getD f (0, 0)).2 (ps.getD t (0, 0)).1 (ps.getD t (0, 0)).2 (mx tol 0)
def fq (ps : List (Int × Int)) (f t i m : Nat) : Bool := farB (ps.getD i (0, 0)).1 (ps.getD i (0, 0)).2 (ps.getD m (0, 0)).1 (ps.getD m (0, 0)).2 (ps.getD f (0, 0)).1 (ps.getD f (0, 0)).2 (ps.getD t (0, 0)).1 (ps.getD t (0, 0)).2
/-- the best so far of n points, and one; 0: none -/
def scn (ps : List (Int × Int)) (tol : Int) (f t : Nat) : Nat → Nat
  | 0 => 0
  | n + 1 => if wq ps tol f t (f + n + 1) = false ∧ (scn ps tol f t n = 0 ∨ fq ps f t (f + n + 1) (scn ps tol f t n - 1) = true) then f + n + 2 else scn ps tol f t n
section
variable {ps : List (Int × Int)} {tol : Int} {f t e b : Nat}
theorem dC (he : f < e) : scn ps tol f t (e + 1 - (f + 1)) = if wq ps tol f t e = false ∧ (scn ps tol f t (e - (f + 1)) = 0 ∨ fq ps f t e (scn ps tol f t (e - (f + 1)) - 1) = true) then e + 1 else scn ps tol f t (e - (f + 1)) := by
  obtain ⟨n, rfl⟩ : ∃ n, e = f + n + 1 := ⟨e - f - 1, by omega⟩
  rw [show f + n + 1 + 1 - (f + 1) = n + 1 by omega, show f + n + 1 - (f + 1) = n by omega]; rfl
theorem yP (he : f < e) (hb : scn ps tol f t (e - (f + 1)) = b) (hw : wthn (ps.getD e (0, 0)).1 (ps.getD e (0, 0)).2 (ps.getD f (0, 0)).1 (ps.getD f (0, 0)).2 (ps.getD t (0, 0)).1 (ps.getD t (0, 0)).2 (mx tol 0) = true) : scn ps tol f t (e + 1 - (f + 1)) = b := by
  have hw : wq ps tol f t e = true := hw
  rw [dC he, if_neg (by rw [hw]; simp), hb]
theorem gS (he : f < e) (hb : scn ps tol f t (e - (f + 1)) = b) (hw : wthn (ps.getD e (0, 0)).1 (ps.getD e (0, 0)).2 (ps.getD f (0, 0)).1 (ps.getD f (0, 0)).2 (ps.getD t (0, 0)).1 (ps.getD t (0, 0)).2 (mx tol 0) = false) (h0 : b = 0) : scn ps tol f t (e + 1 - (f + 1)) = e + 1 := by
  have hw : wq ps tol f t e = false := hw
  rw [dC he, if_pos ⟨hw, .inl (hb.trans h0)⟩]
theorem xW (he : f < e) (hb : scn ps tol f t (e - (f + 1)) = b) (hw : wthn (ps.getD e (0, 0)).1 (ps.getD e (0, 0)).2 (ps.getD f (0, 0)).1 (ps.getD f (0, 0)).2 (ps.getD t (0, 0)).1 (ps.getD t (0, 0)).2 (mx tol 0) = false) (hf : farB (ps.getD e (0, 0)).1 (ps.getD e (0, 0)).2 (ps.getD (b - 1) (0, 0)).1 (ps.getD (b - 1) (0, 0)).2 (ps.getD f (0, 0)).1 (ps.getD f (0, 0)).2 (ps.getD t (0, 0)).1 (ps.getD t (0, 0)).2 = true) : scn ps tol f t (e + 1 - (f + 1)) = e + 1 := by
  have hw : wq ps tol f t e = false := hw
  rw [dC he, if_pos ⟨hw, .inr (by rw [hb]; exact hf)⟩]
theorem yQ (he : f < e) (hb : scn ps tol f t (e - (f + 1)) = b) (h1 : b ≠ 0) (hf : farB (ps.getD e (0, 0)).1 (ps.getD e (0, 0)).2 (ps.getD (b - 1) (0, 0)).1 (ps.getD (b - 1) (0, 0)).2 (ps.getD f (0, 0)).1 (ps.getD f (0, 0)).2 (ps.getD t (0, 0)).1 (ps.getD t (0, 0)).2 = false) : scn ps tol f t (e + 1 - (f + 1)) = b := by
  have hf : fq ps f t e (b - 1) = false := hf
  rw [dC he, hb, if_neg (by rintro ⟨_, h | h⟩; exact h1 h; rw [hf] at h; cases h)]
theorem sL (n : Nat) : (scn ps tol f t n = 0 → ∀ i, f < i → i ≤ f + n → wq ps tol f t i = true) ∧ (scn ps tol f t n ≠ 0 → (f < scn ps tol f t n - 1 ∧ scn ps tol f t n - 1 ≤ f + n) ∧ wq ps tol f t (scn ps tol f t n - 1) = false ∧
    ∀ i, f < i → i ≤ f + n → wq ps tol f t i = false → fq ps f t i (scn ps tol f t n - 1) = false ∧ (i < scn ps tol f t n - 1 → fq ps f t (scn ps tol f t n - 1) i = true)) := by
  induction n with
  | zero => exact ⟨fun _ i h1 h2 => by omega, fun h => (h rfl).elim⟩
  | succ n ih =>
    simp only [scn]
    split
    · rename_i h
      refine ⟨fun q => by omega, fun _ => ?_⟩
      rw [show f + n + 2 - 1 = f + n + 1 by omega]
      refine ⟨by omega, h.1, fun i h1 h2 hw => ?_⟩
      rcases Nat.eq_or_lt_of_le h2 with c | c
      · subst c; exact ⟨by unfold fq farB; rw [show f + (n + 1) = f + n + 1 from rfl]; exact decide_eq_false (Int.lt_irrefl _), fun q => by omega⟩
      · have key : fq ps f t (f + n + 1) i = true := by
          rcases Nat.eq_zero_or_pos (scn ps tol f t n) with z | z
          · rw [ih.1 z i h1 (by omega)] at hw; cases hw
          · have k := ((ih.2 (by omega)).2.2 i h1 (by omega) hw).1
            have g := h.2.resolve_left (by omega)
            simp only [fq, farB, decide_eq_true_eq, decide_eq_false_iff_not] at *; omega
        refine ⟨?_, fun _ => key⟩
        simp only [fq, farB, decide_eq_true_eq, decide_eq_false_iff_not] at *; omega
    · rename_i h
      refine ⟨fun z i h1 h2 => ?_, fun z => ?_⟩
      · rcases Nat.eq_or_lt_of_le h2 with c | c
        · subst c
          rcases Bool.eq_false_or_eq_true (wq ps tol f t (f + (n + 1))) with q | q
          · exact q
          · exact (h ⟨q, .inl z⟩).elim
        · exact ih.1 z i h1 (by omega)
      · obtain ⟨a1, a2, a3⟩ := ih.2 z
        refine ⟨by omega, a2, fun i h1 h2 hw => ?_⟩
        rcases Nat.eq_or_lt_of_le h2 with c | c
        · subst c
          refine ⟨?_, fun q => by omega⟩
          rcases Bool.eq_false_or_eq_true (fq ps f t (f + (n + 1)) (scn ps tol f t n - 1)) with q | q
          · exact (h ⟨hw, .inr q⟩).elim
          · exact q
        · exact a3 i h1 (by omega) hw
theorem mR (hz : scn ps tol f t (t - (f + 1)) ≠ 0) (hft : f < t) : Best (wtP tol) dqP (0, 0) ps f t (scn ps tol f t (t - (f + 1)) - 1) := by
  obtain ⟨a1, a2, a3⟩ := (sL (ps := ps) (tol := tol) (f := f) (t := t) (t - (f + 1))).2 hz
  refine ⟨by omega, a2, fun i h1 h2 hw => ?_⟩
  have := a3 i h1 (by omega) hw
  simp only [fq, farB, decide_eq_true_eq, decide_eq_false_iff_not] at this
  simp only [dqP]; omega
theorem scn_nil (h : u4 ps tol f t []) : scn ps tol f t (t - (f + 1)) = 0 := by
  rcases Nat.eq_zero_or_pos (scn ps tol f t (t - (f + 1))) with z | z
  · exact z
  · have hft := Thin.lt h
    have b := mR (ps := ps) (tol := tol) (by omega) hft
    generalize hJ : ([] : List Nat) = J at h
    cases h with
    | nil _ hn => have := hn _ b.1.1 b.1.2; rw [b.2.1] at this; cases this
    | cons => simp at hJ
theorem scn_cons {m : Nat} (h : Best (wtP tol) dqP (0, 0) ps f t m) : scn ps tol f t (t - (f + 1)) = m + 1 := by
  rcases Nat.eq_zero_or_pos (scn ps tol f t (t - (f + 1))) with z | z
  · have := (sL (ps := ps) (tol := tol) (f := f) (t := t) (t - (f + 1))).1 z m h.1.1 (by have := h.1; omega)
    have q : wq ps tol f t m = false := h.2.1
    rw [q] at this; cases this
  · have hft : f < t := by have := h.1; omega
    have := (mR (ps := ps) (tol := tol) (by omega) hft).uniq h; omega
end
theorem thin_ex (ps : List (Int × Int)) (tol : Int) : ∀ (n f t : Nat), f < t → t - f ≤ n → ∃ J, u4 ps tol f t J := by
  intro n
  induction n with
  | zero => intro f t h1 h2; omega
  | succ n ih =>
    intro f t h1 h2
    rcases Nat.eq_zero_or_pos (scn ps tol f t (t - (f + 1))) with z | z
    · exact ⟨[], .nil h1 (fun i a b => (sL (ps := ps) (tol := tol) (f := f) (t := t) (t - (f + 1))).1 z i a (by omega))⟩
    · have b := mR (ps := ps) (tol := tol) (by omega) h1
      obtain ⟨J, hJ⟩ := ih f _ b.1.1 (by have := b.1; omega)
      obtain ⟨K, hK⟩ := ih _ t b.1.2 (by have := b.1; omega)
      exact ⟨_, .cons b hJ hK⟩
def setJ (kp : List Bool) (J : List Nat) : List Bool := (List.range kp.length).map (fun i => kp.getD i false || decide (i ∈ J))
theorem yN (kp J) : (setJ kp J).length = kp.length := by simp [setJ]
theorem w8 {kp : List Bool} {J : List Nat} {i : Nat} (h : i < kp.length) : (setJ kp J).getD i false = (kp.getD i false || decide (i ∈ J)) := by
  rw [List.getD_eq_getElem?_getD, setJ, List.getElem?_map, List.getElem?_range h]; rfl
theorem qBE {a b : List Bool} (hl : a.length = b.length) (h : ∀ i, i < a.length → a.getD i false = b.getD i false) : a = b := by
  apply List.ext_getElem hl
  intro i h1 h2
  have := h i h1
  rwa [List.getD_eq_getElem?_getD, List.getD_eq_getElem?_getD, List.getElem?_eq_getElem h1, List.getElem?_eq_getElem h2] at this
theorem setJ_nil (kp : List Bool) : setJ kp [] = kp := by
  refine qBE (yN _ _) (fun i h => ?_)
  rw [yN] at h; rw [w8 h]; simp
theorem setJ_cons {kp : List Bool} {J K : List Nat} {m : Nat} (hm : m < kp.length) : setJ (setJ (kp.set m true) J) K = setJ kp (J ++ m :: K) := by
  refine qBE (by simp [yN]) (fun i h => ?_)
  simp only [yN, List.length_set] at h
  rw [w8 (by rw [yN, List.length_set]; exact h), w8 (by rw [List.length_set]; exact h), w8 h]
  have e : (kp.set m true).getD i false = (kp.getD i false || decide (i = m)) := by
    rw [List.getD_eq_getElem?_getD, List.getElem?_set, List.getD_eq_getElem?_getD]
    by_cases c : m = i
    · subst c; simp [hm]
    · rw [if_neg c]; simp [Ne.symm c]
  rw [e]
  by_cases c1 : i ∈ J <;> by_cases c2 : i = m <;> by_cases c3 : i ∈ K <;> simp [c1, c2, c3]
/-- the points of a line that are kept, of the first n -/
def slF (ps : List (Int × Int)) (kp : List Bool) : Nat → List (Int × Int)
  | 0 => []
  | n + 1 => if kp.getD n false = true then slF ps kp n ++ [ps.getD n (0, 0)] else slF ps kp n
theorem slF_y {ps kp n} (h : kp.getD n false = true) : slF ps kp (n + 1) = slF ps kp n ++ [ps.getD n (0, 0)] := by rw [slF, if_pos h]
theorem slF_n {ps kp n} (h : kp.getD n false = false) : slF ps kp (n + 1) = slF ps kp n := by rw [slF, if_neg (by rw [h]; simp)]
theorem mN (ps kp n) : (slF ps kp n).length ≤ n := by
  induction n with
  | zero => exact Nat.le_refl _
  | succ n ih => rw [slF]; split <;> (first | (rw [List.length_append]; simp; omega) | omega)
theorem slF_eq (ps kp n) : slF ps kp n = ((List.range n).filter (fun i => kp.getD i false)).map (fun i => ps.getD i (0, 0)) := by
  induction n with
  | zero => rfl
  | succ n ih =>
    rw [slF, List.range_succ, List.filter_append, List.map_append, ← ih]
    by_cases h : kp.getD n false = true
    · rw [if_pos h, List.filter_cons, if_pos h]; rfl
    · rw [if_neg h, List.filter_cons, if_neg h]; simp
theorem uA (n : Nat) : ∀ (s : Nat) (L : List Nat), (∀ j ∈ L, s ≤ j ∧ j < s + n) → L.Pairwise (· < ·) → (List.range' s n).filter (fun i => decide (i ∈ L)) = L := by
  induction n with
  | zero => intro s L h _; cases L with
    | nil => rfl
    | cons a r => have := h a (by simp); omega
  | succ n ih =>
    intro s L h hp
    rw [List.range'_succ]
    by_cases hs : s ∈ L
    · rw [List.filter_cons, if_pos (by simpa using hs)]
      cases L with
      | nil => simp at hs
      | cons a r =>
        have hr := List.pairwise_cons.1 hp
        have ha : a = s := by
          rcases List.mem_cons.1 hs with q | q
          · exact q.symm
          · have := hr.1 s q; have := h a (by simp); omega
        subst ha
        have := ih (a + 1) r (fun j hj => by have := hr.1 j hj; have := h j (List.mem_cons_of_mem _ hj); omega) hr.2
        congr 1
        refine Eq.trans (List.filter_congr (fun x hx => ?_)) this
        have := List.mem_range'_1.1 hx
        simp only [List.mem_cons]
        have : x ≠ a := by omega
        simp [this]
    · rw [List.filter_cons, if_neg (by simpa using hs)]
      refine ih (s + 1) L (fun j hj => ?_) hp
      have := h j hj
      have : j ≠ s := fun c => hs (c ▸ hj)
      omega
/-- what is kept at first: both ends -/
def kp0 (n : Nat) : List Bool := ((List.replicate n false).set 0 true).set (n - 1) true
theorem s8 (n) : (kp0 n).length = n := by simp [kp0]
theorem kp0_get {n i : Nat} (h : i < n) : (kp0 n).getD i false = (decide (i = 0) || decide (i = n - 1)) := by
  unfold kp0
  rw [List.getD_eq_getElem?_getD, List.getElem?_set, List.getElem?_set]
  simp only [List.length_set, List.length_replicate]
  by_cases c : n - 1 = i
  · rw [if_pos c, if_pos (by omega)]; simp [c]
  · rw [if_neg c]
    by_cases c2 : 0 = i
    · rw [if_pos c2, if_pos (by omega)]; simp [← c2]
    · rw [if_neg c2, List.getElem?_replicate, if_pos h]; simp [Ne.symm c, Ne.symm c2]
def ends (n : Nat) (J : List Nat) : List Nat := 0 :: (J ++ [n - 1])
theorem lB {n : Nat} {J : List Nat} (hn : 2 ≤ n) (h : (∀ j ∈ J, 0 < j ∧ j < n - 1) ∧ J.Pairwise (· < ·)) : (∀ j ∈ ends n J, 0 ≤ j ∧ j < 0 + n) ∧ (ends n J).Pairwise (· < ·) := by
  unfold ends
  refine ⟨fun j hj => ?_, ?_⟩
  · rcases List.mem_cons.1 hj with q | q
    · omega
    · rcases List.mem_append.1 q with q | q
      · have := h.1 j q; omega
      · have := List.mem_singleton.1 q; omega
  · refine List.pairwise_cons.2 ⟨fun x hx => ?_, List.pairwise_append.2 ⟨h.2, List.pairwise_singleton _ _, fun x hx y hy => ?_⟩⟩
    · rcases List.mem_append.1 hx with q | q
      · exact (h.1 x q).1
      · have := List.mem_singleton.1 q; omega
    · have := List.mem_singleton.1 hy; have := h.1 x hx; omega
theorem sl_line {ps : List (Int × Int)} {J : List Nat} {n : Nat} (hn : 2 ≤ n) (h : (∀ j ∈ J, 0 < j ∧ j < n - 1) ∧ J.Pairwise (· < ·)) : slF ps (setJ (kp0 n) J) n = (ends n J).map (fun i => ps.getD i (0, 0)) := by
  have R := lB hn h
  rw [slF_eq]; congr 1
  refine Eq.trans ?_ (uA n 0 (ends n J) R.1 R.2)
  rw [List.range_eq_range']
  refine List.filter_congr (fun x hx => ?_)
  have := List.mem_range'_1.1 hx
  rw [w8 (by rw [s8]; omega), kp0_get (by omega)]
  unfold ends
  simp only [List.mem_cons, List.mem_append, List.not_mem_nil, or_false]
  by_cases c1 : x = 0 <;> by_cases c2 : x ∈ J <;> by_cases c3 : x = n - 1 <;> simp [c1, c2, c3]
/-- a line and what is left of it -/
def tW (tol : Int) (ps ys : List (Int × Int)) : Prop := (ps.length < 3 ∧ ys = ps) ∨ (3 ≤ ps.length ∧ ∃ J, u4 ps tol 0 (ps.length - 1) J ∧ ys = (ends ps.length J).map (fun i => ps.getD i (0, 0)))
theorem qAG (tol : Int) (ps) : ∃ ys, tW tol ps ys := by
  by_cases h : ps.length < 3
  · exact ⟨ps, .inl ⟨h, rfl⟩⟩
  · obtain ⟨J, hJ⟩ := thin_ex ps tol _ 0 (ps.length - 1) (by omega) (Nat.le_refl _)
    exact ⟨_, .inr ⟨by omega, J, hJ, rfl⟩⟩
theorem map_getD {f : Nat → Int × Int} {L : List Nat} {k : Nat} (h : k < L.length) : (L.map f).getD k (0, 0) = f (L.getD k 0) := by
  rw [List.getD_eq_getElem?_getD, List.getElem?_map, List.getD_eq_getElem?_getD, List.getElem?_eq_getElem h]; rfl
theorem dP (n J) : (ends n J).length = J.length + 2 := by simp [ends]
theorem wthn_left {px py bx b_y k : Int} (hk : 0 ≤ k) : wthn px py px py bx b_y k = true := by
  have e : dot px py bx b_y px py = 0 := by unfold dot; simp
  have e2 : dot px py px py px py = 0 := by unfold dot; simp
  unfold wthn sqn sqd
  rw [e, if_pos (by omega), if_pos (by omega), e2, Int.mul_one]
  have : 0 ≤ mn k 4194304 := by unfold mn; split <;> omega
  simp [hk, Int.mul_nonneg this this]
theorem qD8 {px py ax ay k : Int} (hk : 0 ≤ k) : wthn px py ax ay px py k = true := by
  have e2 : dot px py px py px py = 0 := by unfold dot; simp
  have h0 : 0 ≤ mn k 4194304 * mn k 4194304 := by
    have : 0 ≤ mn k 4194304 := by unfold mn; split <;> omega
    exact Int.mul_nonneg this this
  unfold wthn sqn sqd
  by_cases h : dot ax ay px py px py ≤ 0
  · rw [if_pos h, if_pos h, Int.mul_one]; simp [hk]; omega
  · rw [if_neg h, if_neg h, if_pos (Int.le_refl _), if_pos (Int.le_refl _), e2, Int.mul_one]; simp [hk, h0]
theorem rN {ys : List (Int × Int)} {k : Int} (hk : 0 ≤ k) (h2 : 2 ≤ ys.length) {i : Nat} (hi : i < ys.length) {p : Int × Int} (hp : ys.getD i (0, 0) = p) :
    ∃ j, j + 1 < ys.length ∧ wthn p.1 p.2 (ys.getD j (0, 0)).1 (ys.getD j (0, 0)).2 (ys.getD (j + 1) (0, 0)).1 (ys.getD (j + 1) (0, 0)).2 k = true := by
  by_cases c : i + 1 < ys.length
  · exact ⟨i, c, by rw [hp]; exact wthn_left hk⟩
  · refine ⟨i - 1, by omega, ?_⟩
    rw [show i - 1 + 1 = i by omega, hp]; exact qD8 hk
theorem dJ {ps : List (Int × Int)} {i : Nat} (h : i < ps.length) : ps.getD i (0, 0) ∈ ps := by
  rw [List.getD_eq_getElem?_getD, List.getElem?_eq_getElem h]; exact List.getElem_mem h
theorem tW.facts {tol : Int} {ps ys : List (Int × Int)} (h : tW tol ps ys) (h2 : 2 ≤ ps.length) (h0 : 0 ≤ tol) : (2 ≤ ys.length ∧ ys.length ≤ ps.length) ∧ ys.getD 0 (0, 0) = ps.getD 0 (0, 0) ∧ ys.getD (ys.length - 1) (0, 0) = ps.getD (ps.length - 1) (0, 0) ∧ (∀ q ∈ ys, q ∈ ps) ∧
    ∀ i, i < ps.length → ∃ j, j + 1 < ys.length ∧ wthn (ps.getD i (0, 0)).1 (ps.getD i (0, 0)).2 (ys.getD j (0, 0)).1 (ys.getD j (0, 0)).2 (ys.getD (j + 1) (0, 0)).1 (ys.getD (j + 1) (0, 0)).2 tol = true := by
  rcases h with ⟨h, rfl⟩ | ⟨h, J, hJ, e⟩
  · exact ⟨⟨h2, Nat.le_refl _⟩, rfl, rfl, fun q hq => hq, fun i hi => rN h0 h2 hi rfl⟩
  · have R := Thin.rise hJ
    have E := lB (n := ps.length) (by omega) R
    have hl : ys.length = J.length + 2 := by rw [e, List.length_map, dP]
    have hy : ∀ k, k < J.length + 2 → ys.getD k (0, 0) = ps.getD ((ends ps.length J).getD k 0) (0, 0) := by
      intro k hk; rw [e, map_getD (by rw [dP]; exact hk)]
    have last : (ends ps.length J).getD (J.length + 1) 0 = ps.length - 1 := by
      unfold ends; rw [List.getD_cons_succ, dK (by omega)]; simp
    have hle : ys.length ≤ ps.length := by
      rw [e, List.length_map, ← uA ps.length 0 (ends ps.length J) E.1 E.2]
      exact Nat.le_trans (List.length_filter_le _ _) (by simp)
    refine ⟨⟨by omega, hle⟩, ?_, ?_, fun q hq => ?_, fun i hi => ?_⟩
    · rw [hy 0 (by omega)]; rfl
    · rw [hy _ (by omega), show ys.length - 1 = J.length + 1 by omega, last]
    · rw [e] at hq
      obtain ⟨i, hi, rfl⟩ := List.mem_map.1 hq
      exact dJ (by have := E.1 i hi; omega)
    · by_cases c : i ∈ ends ps.length J
      · obtain ⟨k, hk, hki⟩ := List.getElem_of_mem c
        rw [dP] at hk
        refine rN h0 (by omega) (i := k) (by omega) ?_
        have q : (ends ps.length J).getD k 0 = i := by
          rw [List.getD_eq_getElem?_getD, List.getElem?_eq_getElem (by rw [dP]; exact hk)]; exact hki
        rw [hy k hk, q]
      · have c0 : i ≠ 0 := fun q => c (by subst q; simp [ends])
        have c1 : i ≠ ps.length - 1 := fun q => c (by unfold ends; rw [← q]; simp)
        rcases Thin.near hJ i (by omega) (by omega) with q | ⟨k, hk, q⟩
        · exact (c (by unfold ends; simp [q])).elim
        · refine ⟨k, by omega, ?_⟩
          rw [hy k (by omega), hy (k + 1) (by omega)]
          have m : mx tol 0 = tol := by unfold mx; split <;> omega
          unfold wtP at q; rw [m] at q; exact q
theorem xH {m : Int} {ps ys : List (Int × Int)} (hm : 0 ≤ m) (h : Few m ps) (hs : ∀ q ∈ ys, q ∈ ps) : Few m ys := uB hm (fun q hq => wS h (hs q hq))
theorem far_eq (x y : Int) : decide (cmp x y > 0) = decide (y < x) := by
  rw [Bool.eq_iff_iff, decide_eq_true_eq, decide_eq_true_eq]; unfold cmp; split <;> (try split) <;> omega
theorem dq_bd {px py ax ay bx b_y : Int} (pxl : -1048576 ≤ px) (pxu : px ≤ 1048576) (pyl : -1048576 ≤ py) (pyu : py ≤ 1048576)
    (axl : -1048576 ≤ ax) (axu : ax ≤ 1048576) (ayl : -1048576 ≤ ay) (ayu : ay ≤ 1048576) (bxl : -1048576 ≤ bx) (bxu : bx ≤ 1048576) (b_yl : -1048576 ≤ b_y) (b_yu : b_y ≤ 1048576) :
    ((0 ≤ sqn px py ax ay bx b_y ∧ sqn px py ax ay bx b_y ≤ 77371252455336267181195264) ∧ (1 ≤ sqd px py ax ay bx b_y ∧ sqd px py ax ay bx b_y ≤ 8796093022208)) ∧
    ((1 ≤ mx 1 (dot ax ay bx b_y bx b_y) ∧ mx 1 (dot ax ay bx b_y bx b_y) ≤ 8796093022208) ∧
    (0 ≤ Int.tdiv (mx 1 (dot ax ay bx b_y bx b_y)) (sqd px py ax ay bx b_y) ∧ Int.tdiv (mx 1 (dot ax ay bx b_y bx b_y)) (sqd px py ax ay bx b_y) ≤ 8796093022208)) ∧
    0 ≤ sqn px py ax ay bx b_y * Int.tdiv (mx 1 (dot ax ay bx b_y bx b_y)) (sqd px py ax ay bx b_y) ∧ sqn px py ax ay bx b_y * Int.tdiv (mx 1 (dot ax ay bx b_y bx b_y)) (sqd px py ax ay bx b_y) ≤ 77371252455336267181195264 := by
  have S := sq_bd px py ax ay bx b_y pxl pxu pyl pyu axl axu ayl ayu bxl bxu b_yl b_yu
  have A := sq_all pxl pxu pyl pyu axl axu ayl ayu bxl bxu b_yl b_yu
  have D := nZ axl axu ayl ayu bxl bxu b_yl b_yu
  have M : 1 ≤ mx 1 (dot ax ay bx b_y bx b_y) ∧ mx 1 (dot ax ay bx b_y bx b_y) ≤ 8796093022208 := by unfold mx; split <;> omega
  have C : sqd px py ax ay bx b_y = 1 ∨ sqd px py ax ay bx b_y = mx 1 (dot ax ay bx b_y bx b_y) := by
    unfold sqd mx
    split
    · exact .inl rfl
    · split
      · exact .inl rfl
      · right; split <;> omega
  have T : Int.tdiv (mx 1 (dot ax ay bx b_y bx b_y)) (sqd px py ax ay bx b_y) = mx 1 (dot ax ay bx b_y bx b_y) / sqd px py ax ay bx b_y := Int.tdiv_eq_ediv_of_nonneg (by omega)
  rw [T]
  refine ⟨S, ⟨M, ?_⟩, ?_⟩
  · rcases C with c | c
    · rw [c, Int.ediv_one]; omega
    · rw [c, Int.ediv_self (by omega)]; omega
  · rcases C with c | c
    · rw [c] at A
      rw [c, Int.ediv_one]
      have := yV (a := sqn px py ax ay bx b_y) (b := mx 1 (dot ax ay bx b_y bx b_y)) (A := 8796093022208) (B := 8796093022208) (by omega) (by omega) (by omega) (by omega)
      have := Int.mul_nonneg A.1.1 (show 0 ≤ mx 1 (dot ax ay bx b_y bx b_y) by omega)
      omega
    · rw [c, Int.ediv_self (by omega), Int.mul_one]; omega
theorem nbf {b : Bool} (h : (!b) = false) : b = true := by simpa using h
theorem nbt {b : Bool} (h : (!b) = true) : b = false := by simpa using h
def lmP (p : Int × Int) : Int × Int := (lim 1048576 p.1, lim 1048576 p.2)
theorem fD (ps : List (Int × Int)) : Few 1048576 (ps.map lmP) := by
  refine uB (by decide) (fun q hq => ?_)
  obtain ⟨p, _, rfl⟩ := List.mem_map.1 hq
  exact ⟨jP (by decide) _, jP (by decide) _⟩
theorem lim_few {m : Int} {ps : List (Int × Int)} (hm : m ≤ 1048576) (h : Few m ps) : ps.map lmP = ps := by
  refine Eq.trans (List.map_congr_left (fun q hq => ?_)) (List.map_id _)
  have := wS h hq
  show (lim 1048576 q.1, lim 1048576 q.2) = q
  rw [jR (by omega) (by omega), jR (by omega) (by omega)]
theorem slF_ylen {ps kp n} (h : kp.getD n false = true) : (slF ps kp (n + 1)).length = (slF ps kp n).length + 1 := by rw [slF_y h]; simp
theorem tW.sl {tol : Int} {qs ys : List (Int × Int)} {J : List Nat} (h : 3 ≤ qs.length) (hJ : u4 qs tol 0 (qs.length - 1) J) (e : ys = (ends qs.length J).map (fun i => qs.getD i (0, 0))) : slF qs (setJ (kp0 qs.length) J) qs.length = ys := by
  rw [e]; exact sl_line (by omega) (Thin.rise hJ)
def lptP (xs : List Int) (k : Nat) : Int × Int := (xs.getD (2 * k) 0 % 81 - 40, xs.getD (2 * k + 1) 0 % 81 - 40)
def lpt (xs : List Int) : Nat → Int × Int
  | 0 => lptP xs 0
  | k + 1 => if lptP xs (k + 1) = lpt xs k then ((lptP xs (k + 1)).1 + 1, (lptP xs (k + 1)).2) else lptP xs (k + 1)
def lnL (xs : List Int) (n : Nat) : List (Int × Int) := (List.range n).map (lpt xs)
theorem wR (xs n) : (lnL xs n).length = n := by simp [lnL]
theorem lnL_few (xs n) : Few 41 (lnL xs n) := by
  refine uB (by decide) (fun q hq => ?_)
  obtain ⟨k, _, rfl⟩ := List.mem_map.1 hq
  have a := Int.emod_nonneg (xs.getD (2 * k) 0) (b := 81) (by decide)
  have b := Int.emod_lt_of_pos (xs.getD (2 * k) 0) (b := 81) (by decide)
  have c := Int.emod_nonneg (xs.getD (2 * k + 1) 0) (b := 81) (by decide)
  have d := Int.emod_lt_of_pos (xs.getD (2 * k + 1) 0) (b := 81) (by decide)
  cases k with
  | zero => unfold lpt lptP; simp only [] at *; omega
  | succ k =>
    unfold lpt lptP
    split <;> (simp only [] at *; omega)
theorem lnL_get {xs : List Int} {n i : Nat} (h : i < n) : (lnL xs n).getD i (0, 0) = lpt xs i := by
  unfold lnL
  rw [List.getD_eq_getElem?_getD, List.getElem?_map, List.getElem?_range h]; rfl
theorem qAF {xs : List Int} {i : Nat} {p : Int × Int} (h : lpt xs i = p) : lnL xs i ++ [p] = lnL xs (i + 1) := by
  unfold lnL; rw [List.range_succ, List.map_append, ← h]; rfl
theorem lpt_eq {xs : List Int} {i : Nat} (h1 : 1 ≤ i) (h : ((xs.getD (2 * i) 0 % 81 - 40 == ((lnL xs i).getD (i - 1) (0, 0)).1) && ((xs.getD (2 * i + 1) 0 % 81 - 40 == ((lnL xs i).getD (i - 1) (0, 0)).2) && true)) = true) : lpt xs i = (xs.getD (2 * i) 0 % 81 - 40 + 1, xs.getD (2 * i + 1) 0 % 81 - 40) := by
  obtain ⟨k, rfl⟩ : ∃ k, i = k + 1 := ⟨i - 1, by omega⟩
  rw [lnL_get (by omega), Nat.add_sub_cancel] at h
  simp only [Bool.and_true, Bool.and_eq_true, beq_iff_eq] at h
  unfold lpt
  rw [if_pos (show lptP xs (k + 1) = lpt xs k from Prod.ext h.1 h.2)]; rfl
theorem lpt_ne {xs : List Int} {i : Nat} (h1 : 1 ≤ i) (h : ((xs.getD (2 * i) 0 % 81 - 40 == ((lnL xs i).getD (i - 1) (0, 0)).1) && ((xs.getD (2 * i + 1) 0 % 81 - 40 == ((lnL xs i).getD (i - 1) (0, 0)).2) && true)) = false) : lpt xs i = (xs.getD (2 * i) 0 % 81 - 40, xs.getD (2 * i + 1) 0 % 81 - 40) := by
  obtain ⟨k, rfl⟩ : ∃ k, i = k + 1 := ⟨i - 1, by omega⟩
  rw [lnL_get (by omega), Nat.add_sub_cancel] at h
  unfold lpt
  rw [if_neg (fun q => ?_)]
  · rfl
  · rw [← q] at h
    unfold lptP at h
    simp at h
section
variable {ps : List (Int × Int)} {tol : Int} {f t i b : Nat}
end
inductive Que (ps : List (Int × Int)) (tol : Int) : List (Int × Int) → List Nat → Prop
  | nil : Que ps tol [] []
  | cons {f t : Nat} {J M : List Nat} {td : List (Int × Int)} (h : u4 ps tol f t J) (ht : t < ps.length) (q : Que ps tol td M) : Que ps tol (((f : Int), (t : Int)) :: td) (J ++ M)
/-- the state of the document's loop: what is kept, what is to be looked at -/
def Stt (ps : List (Int × Int)) (tol : Int) (L : List Nat) (ks : List Nat) (td : List (Int × Int)) : Prop := ∃ M, Que ps tol td M ∧ (ks ++ M).Perm L
theorem Stt.front {ps : List (Int × Int)} {tol : Int} {L ks : List Nat} {td : List (Int × Int)} (h : Stt ps tol L ks td) (hn : 1 ≤ td.length) : ∃ (f t : Nat) (r : List (Int × Int)) (J : List Nat), td = ((f : Int), (t : Int)) :: r ∧ f < t ∧ t < ps.length ∧ u4 ps tol f t J ∧ ∃ M, Que ps tol r M ∧ (ks ++ (J ++ M)).Perm L := by
  obtain ⟨M, q, hp⟩ := h
  cases q with
  | nil => simp at hn
  | cons h ht q => exact ⟨_, _, _, _, rfl, Thin.lt h, ht, h, _, q, hp⟩
end Go.Proofs.Ytadifmimefmcnaa.Am.Sp
namespace Go.Proofs.Ytadifmimefmcnaa.Am
open Go Go.Proofs
theorem rK (xs : List Int) (p : Nat) :
    AC Try.prog 100 2 ([.pointer (some ⟨0, 0, none⟩)]) [(0, ⟨[.slice (some ⟨1, (min (p) xs.length), none⟩) (xs.length - (p)) 0], 67, true, 1⟩), (1, ⟨(xs.map i64v), 3, false, 1⟩)] (.agg #[.int .i64 (xs.getD p 0 % 81 - 40), .int .i64 (xs.getD (p + 1) 0 % 81 - 40)]) [(0, ⟨[.slice (some ⟨1, (min (p + 2) xs.length), none⟩) (xs.length - (p + 2)) 0], 67, true, 1⟩)] := by
 have q1 := Sp.wU (xs.getD p 0) (n := 81) dD; have q2 := Sp.wU (xs.getD (p + 1) 0) (n := 81) dD
 refine qK Try.func100 (fun w0 W pin => ?_)
 refine aw_e 3 1 2<|aw_p 7 (
  .a 1 3 <|
  .p (cB #[.tmp 3, .const (.int .i64 81)] #[65, 3] [.pointer (some ⟨0, 0, none⟩), .int .i64 81] 0 [(0, ⟨[.slice (some ⟨1, (min (p) xs.length), none⟩) (xs.length - (p)) 0], 67, true, 1⟩), (1, ⟨(xs.map i64v), 3, false, 1⟩)] [(0, ⟨[.slice (some ⟨1, (min (p + 1) xs.length), none⟩) (xs.length - (p + 1)) 0], 67, true, 1⟩)] (.int .i64 (xs.getD p 0 % 81)) [0, 1] (nextz xs p 81 dD dD) (.cons (.ptr _ _ dD) (.cons (.flatB kK) .nil)) ⟨rfl, ⟨rfl, rfl, rfl, (.cons (.slice _ _ _ _ _ dD) .nil)⟩, rfl, ⟨rfl, rfl, rfl, (.flats (flats_map (fun _ => rfl) _))⟩, trivial⟩ ⟨rfl, ⟨rfl, rfl, rfl, (.cons (.slice _ _ _ _ _ dD) .nil)⟩, trivial⟩ (.flatB kK)) <|
  .p (qJ ((xs.getD p 0 % 81) - 40) (wrap_i64 oO oO) .i64) <| .a 1 3 <|
  .p (cB #[.tmp 6, .const (.int .i64 81)] #[65, 3] [.pointer (some ⟨0, 0, none⟩), .int .i64 81] 0 [(0, ⟨[.slice (some ⟨1, (min (p + 1) xs.length), none⟩) (xs.length - (p + 1)) 0], 67, true, 1⟩), (1, ⟨(xs.map i64v), 3, false, 1⟩)] [(0, ⟨[.slice (some ⟨1, (min (p + 1 + 1) xs.length), none⟩) (xs.length - (p + 1 + 1)) 0], 67, true, 1⟩)] (.int .i64 (xs.getD (p + 1) 0 % 81)) [0, 1] (nextz xs (p + 1) 81 dD dD) (.cons (.ptr _ _ dD) (.cons (.flatB kK) .nil)) ⟨rfl, ⟨rfl, rfl, rfl, (.cons (.slice _ _ _ _ _ dD) .nil)⟩, rfl, ⟨rfl, rfl, rfl, (.flats (flats_map (fun _ => rfl) _))⟩, trivial⟩ ⟨rfl, ⟨rfl, rfl, rfl, (.cons (.slice _ _ _ _ _ dD) .nil)⟩, trivial⟩ (.flatB kK)) <|
  .p (qJ ((xs.getD (p + 1) 0 % 81) - 40) (wrap_i64 oO oO) .i64) <| .e 2 3) ?_
 exact qF<|qB [.agg #[.int .i64 ((xs.getD p 0 % 81) - 40), .int .i64 ((xs.getD (p + 1) 0 % 81) - 40)]] (show (.agg #[.int .i64 ((xs.getD p 0 % 81) - 40), .int .i64 ((xs.getD (p + 1) 0 % 81) - 40)] : Value) = (.agg #[.int .i64 (xs.getD p 0 % 81 - 40), .int .i64 (xs.getD (p + 1) 0 % 81 - 40)]) from (congrArg (fun z : List Value => Value.agg z.toArray) (jB (congrArg (Value.int .i64) (show ((xs.getD p 0 % 81) - 40) = (xs.getD p 0 % 81 - 40) from by rfl)) (jB (congrArg (Value.int .i64) (show ((xs.getD (p + 1) 0 % 81) - 40) = (xs.getD (p + 1) 0 % 81 - 40) from by rfl)) rfl))))
theorem pointz0 (xs : List Int) : AC Try.prog 100 2 [.pointer (some ⟨0, 0, none⟩)] [(0, ⟨[.slice (some ⟨1, 0, none⟩) xs.length 0], 67, true, 1⟩), (1, ⟨(xs.map i64v), 3, false, 1⟩)] (.agg #[.int .i64 (xs.getD 0 0 % 81 - 40), .int .i64 (xs.getD 1 0 % 81 - 40)]) [(0, ⟨[.slice (some ⟨1, (min (2) xs.length), none⟩) (xs.length - (2)) 0], 67, true, 1⟩)] := by
  have h := rK xs 0
  rw [Nat.zero_min, Nat.sub_zero] at h
  exact h
open Go Go.Proofs
theorem line_ok (xs : List Int) (n : Nat) (hn : 2 ≤ n ∧ n ≤ 8) :
    AC Try.prog 55 2 ([.pointer (some ⟨0, 0, none⟩), .int .i64 ((n : Nat) : Int)]) [(0, ⟨[.slice (some ⟨1, 0, none⟩) xs.length 0], 67, true, 1⟩), (1, ⟨(xs.map i64v), 3, false, 1⟩)] (.slice (some ⟨2, 0, none⟩) n 0) [(0, ⟨[.slice (some ⟨1, (min (2 * n) xs.length), none⟩) (xs.length - (2 * n)) 0], 67, true, 1⟩), (2, ⟨((Sp.lnL xs n).flatMap ptc), 29, true, 2⟩)] := by
 refine qK Try.func55 (fun w0 W pin => ?_)
 refine aw_e 3 1 3<|aw_p 7 (
  .a 1 3 <|
  .p (cB #[.tmp 8] #[65] [.pointer (some ⟨0, 0, none⟩)] 0 [(0, ⟨[.slice (some ⟨1, 0, none⟩) xs.length 0], 67, true, 1⟩), (1, ⟨(xs.map i64v), 3, false, 1⟩)] [(0, ⟨[.slice (some ⟨1, (min (2) xs.length), none⟩) (xs.length - (2)) 0], 67, true, 1⟩)] (.agg #[.int .i64 (xs.getD 0 0 % 81 - 40), .int .i64 (xs.getD 1 0 % 81 - 40)]) [0, 1] (pointz0 xs) (.cons (.ptr _ _ dD) .nil) ⟨rfl, ⟨rfl, rfl, rfl, (.cons (.slice _ _ _ _ _ dD) .nil)⟩, rfl, ⟨rfl, rfl, rfl, (.flats (flats_map (fun _ => rfl) _))⟩, trivial⟩ ⟨rfl, ⟨rfl, rfl, rfl, (.cons (.slice _ _ _ _ _ dD) .nil)⟩, trivial⟩ (.flatB kK)) <|
  .e 2 3) ?_
 refine qD 14 15<|qM 0 29<|q6 59<|al_w _ _ (jS (fun i : Nat => (fun (i : Nat) => mkSt 2 [(0, .pointer (some ⟨0, 0, none⟩)), (1, .int .i64 ((n : Nat) : Int)), (5, .slice (some ⟨3, 0, none⟩) i 0)] [(0, ⟨[.slice (some ⟨1, (min (2 * i) xs.length), none⟩) (xs.length - (2 * i)) 0], 67, true, 1⟩), (1, ⟨(xs.map i64v), 3, false, 1⟩), (3, ⟨((Sp.lnL xs i).flatMap ptc), 29, true, 2⟩)]) i) (fun i : Nat => (fun (i : Nat) => (1 ≤ i ∧ i ≤ n)) i) (fun i : Nat => (fun (i : Nat) => n - i) i) (fun i hi1 ih1 => ?_) 1 (show (1 ≤ 1 ∧ 1 ≤ n) from by omega)) (hc := z15)
 obtain ⟨i, hv1⟩ : ∃ z, z = i := ⟨i, rfl⟩; subst hv1
 have hi1' : (1 ≤ i ∧ i ≤ n) := hi1
 have hi : 1 ≤ i ∧ i ≤ n := hi1'
 show AL _ _ _ (mkSt _ _ _) _
 refine qE<|qD 118 119<|aw_e 237 4 4<|qY 474 475 (decide (((i : Nat) : Int) < ((n : Nat) : Int))) (fun h1 => ?_) (fun h1 => ?_)
 ·have h1p : ((((i : Nat) : Int) < ((n : Nat) : Int))) := pB h1
  have hil : i < n := oO; have b1 := Sp.wU (xs.getD (2 * i) 0) (n := 81) dD
  refine qH<|qM 1 239<|aw_d 479 (
   .a 1 4 <|
   .p (cB #[.tmp 15] #[65] [.pointer (some ⟨0, 0, none⟩)] 0 [(0, ⟨[.slice (some ⟨1, (min (2 * i) xs.length), none⟩) (xs.length - (2 * i)) 0], 67, true, 1⟩), (1, ⟨(xs.map i64v), 3, false, 1⟩)] [(0, ⟨[.slice (some ⟨1, (min (2 * i + 2) xs.length), none⟩) (xs.length - (2 * i + 2)) 0], 67, true, 1⟩)] (.agg #[.int .i64 (xs.getD (2 * i) 0 % 81 - 40), .int .i64 (xs.getD (2 * i + 1) 0 % 81 - 40)]) [0, 1] (rK xs (2 * i)) (.cons (.ptr _ _ dD) .nil) ⟨rfl, ⟨rfl, rfl, rfl, (.cons (.slice _ _ _ _ _ dD) .nil)⟩, rfl, ⟨rfl, rfl, rfl, (.flats (flats_map (fun _ => rfl) _))⟩, trivial⟩ ⟨rfl, ⟨rfl, rfl, rfl, (.cons (.slice _ _ _ _ _ dD) .nil)⟩, trivial⟩ (.flatB kK)) <|
   .a 3 4 <| .p (qJ ((i - 1 : Nat) : Int) ((show (IntKind.wrap .i64 (((i : Nat) : Int) - 1)) = ((i - 1 : Nat) : Int) from ((wrap_i64 oO oO).trans oO))) .i64) <|
   .p (iX 24 17 20 3 0 i 2 ((i - 1 : Nat) : Int) oO oO) <|
   .p (lD 29 21 3 (0 + (((i - 1 : Nat) : Int)).toNat * 2) ⟨((Sp.lnL xs i).flatMap ptc), 29, true, 2⟩ (.agg #[.int .i64 (((Sp.lnL xs i).getD (i - 1) (0, 0)).1), .int .i64 (((Sp.lnL xs i).getD (i - 1) (0, 0)).2)]) (qL (j := (i - 1)) kK kK oO (by first | omega | (simp only [Sp.wR]; omega)))) <|
   .e 4 4) ?_
  refine qD 958 959<|aw_p 1917 (
   .a 2 6 <| .p (qV (((xs.getD (2 * i) 0 % 81 - 40) == (((Sp.lnL xs i).getD (i - 1) (0, 0)).1)) && (((xs.getD (2 * i + 1) 0 % 81 - 40) == (((Sp.lnL xs i).getD (i - 1) (0, 0)).2)) && true)) (rfl)) <| .nil _ _) ?_
  refine qY 3834 3835 (((xs.getD (2 * i) 0 % 81 - 40) == (((Sp.lnL xs i).getD (i - 1) (0, 0)).1)) && (((xs.getD (2 * i + 1) 0 % 81 - 40) == (((Sp.lnL xs i).getD (i - 1) (0, 0)).2)) && true)) (fun h2 => ?_) (fun h2 => ?_)
  ·have h2p : (((xs.getD (2 * i) 0 % 81 - 40) = (((Sp.lnL xs i).getD (i - 1) (0, 0)).1) ∧ (xs.getD (2 * i + 1) 0 % 81 - 40) = (((Sp.lnL xs i).getD (i - 1) (0, 0)).2))) := pB h2
   refine qW (
    .a 2 6 <| .p (qJ ((xs.getD (2 * i) 0 % 81 - 40) + 1) (wrap_i64 oO oO) .i64) <| .e 2 6) ?_
   refine qW (
    .a 3 6 <|
    .p (j2 7 29 2 16 3 i 6 1 ⟨((Sp.lnL xs i).flatMap ptc), 29, true, 2⟩ ⟨[.int .i64 ((xs.getD (2 * i) 0 % 81 - 40) + 1), .int .i64 (xs.getD (2 * i + 1) 0 % 81 - 40)], 29, true, 2⟩ ((Sp.lnL xs (i + 1)).flatMap ptc) kK kK kK kK kK (by show (((Sp.lnL xs i).flatMap ptc)).length = _; rw [pairs_length, Sp.wR]; omega) oO oO (by rw [← Sp.qAF (Sp.lpt_eq hi.1 h2)]; simp [ptc, Sp.wR, pairs_length])) <|
    .e 1 8) ?_
   refine al_r [(3, 7)] [(0, .pointer (some ⟨0, 0, none⟩)), (1, .int .i64 ((n : Nat) : Int)), (5, .slice (some ⟨7, 0, none⟩) (i + 1) 0)] [(0, ⟨[.slice (some ⟨1, (min (2 * (i + 1)) xs.length), none⟩) (xs.length - (2 * (i + 1))) 0], 67, true, 1⟩), (1, ⟨(xs.map i64v), 3, false, 1⟩), (7, ⟨((Sp.lnL xs (i + 1)).flatMap ptc), 29, true, 2⟩)] [(0, .pointer (some ⟨0, 0, none⟩)), (1, .int .i64 ((n : Nat) : Int)), (5, .slice (some ⟨3, 0, none⟩) (i + 1) 0)] [(0, ⟨[.slice (some ⟨1, (min (2 * (i + 1)) xs.length), none⟩) (xs.length - (2 * (i + 1))) 0], 67, true, 1⟩), (1, ⟨(xs.map i64v), 3, false, 1⟩), (3, ⟨((Sp.lnL xs (i + 1)).flatMap ptc), 29, true, 2⟩)] ?_ ⟨rfl, (.ptr _ _ rfl), rfl, (.flatB kK), rfl, (.slice _ _ _ _ _ rfl), trivial⟩ ⟨rfl, ⟨rfl, rfl, rfl, (.cons (.slice _ _ _ _ _ rfl) .nil)⟩, rfl, ⟨rfl, rfl, rfl, (.flats (flats_map (fun _ => rfl) _))⟩, rfl, ⟨rfl, rfl, rfl, (.flats (qA _))⟩, trivial⟩
   exact ih1 (i + 1) (show (1 ≤ (i + 1) ∧ (i + 1) ≤ n) from by omega) (show n - (i + 1) < n - i from by omega)
  have h2p : ¬ (((xs.getD (2 * i) 0 % 81 - 40) = (((Sp.lnL xs i).getD (i - 1) (0, 0)).1) ∧ (xs.getD (2 * i + 1) 0 % 81 - 40) = (((Sp.lnL xs i).getD (i - 1) (0, 0)).2))) := pB h2
  refine qH<|qW (
   .a 3 6 <|
   .p (j2 7 29 2 16 3 i 6 1 ⟨((Sp.lnL xs i).flatMap ptc), 29, true, 2⟩ ⟨[.int .i64 (xs.getD (2 * i) 0 % 81 - 40), .int .i64 (xs.getD (2 * i + 1) 0 % 81 - 40)], 29, true, 2⟩ ((Sp.lnL xs (i + 1)).flatMap ptc) kK kK kK kK kK (by show (((Sp.lnL xs i).flatMap ptc)).length = _; rw [pairs_length, Sp.wR]; omega) oO oO (by rw [← Sp.qAF (Sp.lpt_ne hi.1 h2)]; simp [ptc, Sp.wR, pairs_length])) <|
   .e 1 8) ?_
  refine al_r [(3, 7)] [(0, .pointer (some ⟨0, 0, none⟩)), (1, .int .i64 ((n : Nat) : Int)), (5, .slice (some ⟨7, 0, none⟩) (i + 1) 0)] [(0, ⟨[.slice (some ⟨1, (min (2 * (i + 1)) xs.length), none⟩) (xs.length - (2 * (i + 1))) 0], 67, true, 1⟩), (1, ⟨(xs.map i64v), 3, false, 1⟩), (7, ⟨((Sp.lnL xs (i + 1)).flatMap ptc), 29, true, 2⟩)] [(0, .pointer (some ⟨0, 0, none⟩)), (1, .int .i64 ((n : Nat) : Int)), (5, .slice (some ⟨3, 0, none⟩) (i + 1) 0)] [(0, ⟨[.slice (some ⟨1, (min (2 * (i + 1)) xs.length), none⟩) (xs.length - (2 * (i + 1))) 0], 67, true, 1⟩), (1, ⟨(xs.map i64v), 3, false, 1⟩), (3, ⟨((Sp.lnL xs (i + 1)).flatMap ptc), 29, true, 2⟩)] ?_ ⟨rfl, (.ptr _ _ rfl), rfl, (.flatB kK), rfl, (.slice _ _ _ _ _ rfl), trivial⟩ ⟨rfl, ⟨rfl, rfl, rfl, (.cons (.slice _ _ _ _ _ rfl) .nil)⟩, rfl, ⟨rfl, rfl, rfl, (.flats (flats_map (fun _ => rfl) _))⟩, rfl, ⟨rfl, rfl, rfl, (.flats (qA _))⟩, trivial⟩
  exact ih1 (i + 1) (show (1 ≤ (i + 1) ∧ (i + 1) ≤ n) from by omega) (show n - (i + 1) < n - i from by omega)
 have h1p : ¬ ((((i : Nat) : Int) < ((n : Nat) : Int))) := pB h1
 have hin : i = n := by omega
 refine q5 0<|qG<|aw_w [(5, .slice (some ⟨3, 0, none⟩) n 0)] [(0, ⟨[.slice (some ⟨1, (min (2 * n) xs.length), none⟩) (xs.length - (2 * n)) 0], 67, true, 1⟩), (1, ⟨(xs.map i64v), 3, false, 1⟩), (3, ⟨((Sp.lnL xs n).flatMap ptc), 29, true, 2⟩)] ?_ (by subst hin; kernel_rfl) (by subst hin; kernel_rfl) (hc := z15)
 refine aw_e 31 2 4<|aw_r [(2, 3)] [(4, .slice (some ⟨3, 0, none⟩) n 0)] [(0, ⟨[.slice (some ⟨1, (min (2 * n) xs.length), none⟩) (xs.length - (2 * n)) 0], 67, true, 1⟩), (1, ⟨(xs.map i64v), 3, false, 1⟩), (3, ⟨((Sp.lnL xs n).flatMap ptc), 29, true, 2⟩)] [(4, .slice (some ⟨2, 0, none⟩) n 0)] [(0, ⟨[.slice (some ⟨1, (min (2 * n) xs.length), none⟩) (xs.length - (2 * n)) 0], 67, true, 1⟩), (1, ⟨(xs.map i64v), 3, false, 1⟩), (2, ⟨((Sp.lnL xs n).flatMap ptc), 29, true, 2⟩)] ?_ ⟨rfl, (.slice _ _ _ _ _ rfl), trivial⟩ ⟨rfl, ⟨rfl, rfl, rfl, (.cons (.slice _ _ _ _ _ rfl) .nil)⟩, rfl, ⟨rfl, rfl, rfl, (.flats (flats_map (fun _ => rfl) _))⟩, rfl, ⟨rfl, rfl, rfl, (.flats (qA _))⟩, trivial⟩
 exact qF<|qB [.slice (some ⟨2, 0, none⟩) n 0] kK
theorem mline_ok (xs : List Int) (n : Nat) (hx : xs.length % 7 + 2 = n) (hn : 2 ≤ n ∧ n ≤ 8) :
    AC Try.prog 14 1 ([.slice (some ⟨0, 0, none⟩) xs.length 0]) [(0, ⟨(xs.map i64v), 3, false, 1⟩)] (.slice (some ⟨1, 0, none⟩) n 0) [(1, ⟨((Sp.lnL xs n).flatMap ptc), 29, true, 2⟩)] := by
 refine qK Try.func14 (fun w0 W pin => ?_)
 refine aw_e 3 1 1<|aw_p 7 (
  .a 5 1 <| .p (qC (dR ((xs.length : Nat) : Int) 7 dD dD)) <| .p (qJ ((n : Nat) : Int) ((show (IntKind.wrap .i64 (2 + (((xs.length : Nat) : Int) % 7))) = ((n : Nat) : Int) from ((wrap_i64 oO oO).trans oO))) .i64) <|
  .p (cB #[.tmp 5, .tmp 9] #[65, 3] [.pointer (some ⟨1, 0, none⟩), .int .i64 ((n : Nat) : Int)] 1 [(1, ⟨[.slice (some ⟨0, 0, none⟩) xs.length 0], 67, true, 1⟩), (0, ⟨(xs.map i64v), 3, false, 1⟩)] [(1, ⟨[.slice (some ⟨0, (min (2 * n) xs.length), none⟩) (xs.length - (2 * n)) 0], 67, true, 1⟩), (2, ⟨((Sp.lnL xs n).flatMap ptc), 29, true, 2⟩)] (.slice (some ⟨2, 0, none⟩) n 0) [1, 0, 2] (line_ok xs n hn) (.cons (.ptr _ _ dD) (.cons (.flatB kK) .nil)) ⟨rfl, ⟨rfl, rfl, rfl, (.cons (.slice _ _ _ _ _ dD) .nil)⟩, rfl, ⟨rfl, rfl, rfl, (.flats (flats_map (fun _ => rfl) _))⟩, trivial⟩ ⟨rfl, ⟨rfl, rfl, rfl, (.cons (.slice _ _ _ _ _ dD) .nil)⟩, rfl, ⟨rfl, rfl, rfl, (.flats (qA _))⟩, trivial⟩ (.slice _ _ _ _ _ dD)) <|
  .e 1 3) ?_
 refine aw_r [(1, 2)] [(2, .slice (some ⟨2, 0, none⟩) n 0)] [(0, ⟨(xs.map i64v), 3, false, 1⟩), (2, ⟨((Sp.lnL xs n).flatMap ptc), 29, true, 2⟩)] [(2, .slice (some ⟨1, 0, none⟩) n 0)] [(0, ⟨(xs.map i64v), 3, false, 1⟩), (1, ⟨((Sp.lnL xs n).flatMap ptc), 29, true, 2⟩)] ?_ ⟨rfl, (.slice _ _ _ _ _ rfl), trivial⟩ ⟨rfl, ⟨rfl, rfl, rfl, (.flats (flats_map (fun _ => rfl) _))⟩, rfl, ⟨rfl, rfl, rfl, (.flats (qA _))⟩, trivial⟩
 exact qF<|qB [.slice (some ⟨1, 0, none⟩) n 0] kK
open Go Go.Proofs
theorem p5 (xs : List Int) (p n : Nat) (r : List (Int × Int)) (hp : p + n ≤ xs.length) (h1 : 1 ≤ n) (hr : Sp.lnL ((xs.drop p).take n) (n % 7 + 2) = r) : AC Try.prog 14 1 [.slice (some ⟨0, p, none⟩) n 0] [(0, ⟨(xs.map i64v), 3, false, 1⟩)] (.slice (some ⟨1, 0, none⟩) r.length 0) [(1, ⟨(r.flatMap ptc), 29, true, 2⟩)] := by
  have hl : ((xs.drop p).take n).length = n := (by rw [List.length_take, List.length_drop]; omega)
  have h := mline_ok ((xs.drop p).take n) (n % 7 + 2) (by rw [hl]) (by omega)
  rw [hl] at h
  subst hr
  rw [Sp.wR]
  refine AC.shift (by rw [List.length_map]; exact hp) h1 (flats_map (fun _ => rfl) _) (by rw [← List.map_drop, ← List.map_take]; exact h) (.slice _ _ _ _ (Nat.le_refl _)) (fun k b hk => ?_)
  simp only [List.mem_cons, List.not_mem_nil, or_false, Prod.mk.injEq] at hk
  obtain ⟨rfl, rfl⟩ := hk
  exact ⟨Nat.le_refl _, fun u hu => qT (List.all_eq_true.1 (qA _) u hu)⟩
end Go.Proofs.Ytadifmimefmcnaa.Am
namespace Go.Proofs.Ytadifmimefmcnaa.Am.Sp
theorem prp_swap (ax ay bx b_y cx cy dx dy : Int) : prp cx cy dx dy ax ay bx b_y = prp ax ay bx b_y cx cy dx dy := by
  rw [Bool.eq_iff_iff, prp_iff, prp_iff]; constructor <;> rintro ⟨h1, h2⟩ <;> exact ⟨h2, h1⟩
theorem prp_flip (ax ay bx b_y cx cy dx dy : Int) : prp bx b_y ax ay cx cy dx dy = prp ax ay bx b_y cx cy dx dy := by
  rw [Bool.eq_iff_iff, prp_iff, prp_iff, tC bx b_y ax ay cx cy, tC bx b_y ax ay dx dy, Int.zero_sub, Int.zero_sub, Int.neg_mul_neg, Int.mul_comm (crs cx cy dx dy bx b_y)]
theorem shr_swap (ax ay bx b_y cx cy dx dy : Int) (z : Int × Int) : z ∈ shr cx cy dx dy ax ay bx b_y ↔ z ∈ shr ax ay bx b_y cx cy dx dy := by
  rw [mem_shr, mem_shr]; constructor <;> (rintro (h | h | h | h) <;> simp [h])
theorem shr_flip (ax ay bx b_y cx cy dx dy : Int) (z : Int × Int) : z ∈ shr bx b_y ax ay cx cy dx dy ↔ z ∈ shr ax ay bx b_y cx cy dx dy := by
  rw [mem_shr, mem_shr, mZ bx b_y ax ay cx cy, mZ bx b_y ax ay dx dy]; constructor <;> (rintro (h | h | h | h) <;> simp [h])
theorem qAK {l m : List (Int × Int)} (h1 : l.Nodup) (h2 : m.Nodup) (h : ∀ z, z ∈ l ↔ z ∈ m) : l.length = m.length :=
  ((List.perm_ext_iff_of_nodup h1 h2).2 h).length_eq
theorem qE1 (ax ay bx b_y cx cy dx dy : Int) : qX cx cy dx dy ax ay bx b_y = qX ax ay bx b_y cx cy dx dy := by
  unfold qX; rw [prp_swap, qAK (bG ..) (bG ..) (shr_swap ax ay bx b_y cx cy dx dy)]
theorem qE2 (ax ay bx b_y cx cy dx dy : Int) : qX bx b_y ax ay cx cy dx dy = qX ax ay bx b_y cx cy dx dy := by
  unfold qX; rw [prp_flip, qAK (bG ..) (bG ..) (shr_flip ax ay bx b_y cx cy dx dy)]
end Go.Proofs.Ytadifmimefmcnaa.Am.Sp
namespace Go.Proofs.Ytadifmimefmcnaa.Am.Sp
end Go.Proofs.Ytadifmimefmcnaa.Am.Sp
