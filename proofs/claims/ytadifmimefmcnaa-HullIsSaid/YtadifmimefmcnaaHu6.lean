import Derived.Test.YtadifmimefmcnaaHu5
import Derived.Test.YtadifmimefmcnaaTh4
import Derived.Test.YtadifmimefmcnaaRg8
set_option linter.unusedVariables false
set_option linter.unusedSimpArgs false
namespace Go.Proofs.Ytadifmimefmcnaa.Am.Sp
open Go
/-! Convex hulls: what the laws compute -/
def smP (x : Int) : Int × Int := (x % 81 - 40, Int.tdiv x 81 % 81 - 40)
def ptsL (xs : List Int) : List (Int × Int) := (xs.take 15).map smP
theorem smP_bd (x : Int) : (-40 ≤ (smP x).1 ∧ (smP x).1 ≤ 40) ∧ (-40 ≤ (smP x).2 ∧ (smP x).2 ≤ 40) := by
  have a := Int.emod_nonneg x (b := 81) (by decide)
  have b := Int.emod_lt_of_pos x (b := 81) (by decide)
  have c := Int.emod_nonneg (Int.tdiv x 81) (b := 81) (by decide)
  have d := Int.emod_lt_of_pos (Int.tdiv x 81) (b := 81) (by decide)
  unfold smP; simp only []; omega
theorem ptsL_few (xs) : Few 40 (ptsL xs) := few_of (by decide) (fun q hq => by obtain ⟨x, _, rfl⟩ := List.mem_map.1 hq; exact smP_bd x)
theorem sm_snoc {xs : List Int} {i : Nat} {l : List Value} (h : i < xs.length) (hl : ptc (smP (xs.getD i 0)) = l) : ((xs.take i).map smP).flatMap ptc ++ l = ((xs.take (i + 1)).map smP).flatMap ptc := by
  rw [List.take_succ_eq_append_getElem h, List.map_append, List.flatMap_append, ← hl]
  have : xs.getD i 0 = xs[i] := by rw [List.getD_eq_getElem?_getD, List.getElem?_eq_getElem h]; rfl
  rw [this]; simp
theorem sm_one {xs : List Int} {l : List Value} (h : 0 < xs.length) (hl : ptc (smP (xs.getD 0 0)) = l) : ((xs.take 1).map smP).flatMap ptc = l := by
  have := sm_snoc (i := 0) h hl
  simpa using this.symm
/-- the greatest square of a distance, as the code comes to it -/
def farI (h : List (Int × Int)) (i k : Nat) (m : Int) : Int :=
  if k < i then farI h i (k + 1) (mx m (dot (h.getD i (0, 0)).1 (h.getD i (0, 0)).2 (h.getD k (0, 0)).1 (h.getD k (0, 0)).2 (h.getD k (0, 0)).1 (h.getD k (0, 0)).2)) else m
termination_by i - k
def farF (h : List (Int × Int)) (i : Nat) (m : Int) : Int := if i < h.length then farF h (i + 1) (farI h i 0 m) else m
termination_by h.length - i
theorem farI_go {h : List (Int × Int)} {i k : Nat} {m : Int} (hk : k < i) : farI h i (k + 1) (mx m (dot (h.getD i (0, 0)).1 (h.getD i (0, 0)).2 (h.getD k (0, 0)).1 (h.getD k (0, 0)).2 (h.getD k (0, 0)).1 (h.getD k (0, 0)).2)) = farI h i k m := by
  conv => rhs; rw [farI, if_pos hk]
theorem farI_end {h : List (Int × Int)} {i k : Nat} {m : Int} (hk : ¬ k < i) : farI h i k m = m := by rw [farI, if_neg hk]
theorem farF_go {h : List (Int × Int)} {i : Nat} {m : Int} (hi : i < h.length) : farF h (i + 1) (farI h i 0 m) = farF h i m := by
  conv => rhs; rw [farF, if_pos hi]
theorem farF_end {h : List (Int × Int)} {i : Nat} {m : Int} (hi : ¬ i < h.length) : farF h i m = m := by rw [farF, if_neg hi]
theorem farF_next {h : List (Int × Int)} {i k : Nat} {m a : Int} (hi : i < h.length) (hk : ¬ k < i) (e : farI h i k m = farI h i 0 a) : farF h (i + 1) m = farF h i a := by
  rw [farI_end hk] at e; rw [e, farF_go hi]
/-- a turn to the left is one -/
theorem tn_one {h : List (Int × Int)} {i j k : Nat} (hj : (i + 1) % h.length = j) (hk : (i + 2) % h.length = k) (ht : 0 < crP (h.getD i (0, 0)) (h.getD ((i + 1) % h.length) (0, 0)) (h.getD ((i + 2) % h.length) (0, 0))) :
    (cmp (crs (h.getD i (0, 0)).1 (h.getD i (0, 0)).2 (h.getD j (0, 0)).1 (h.getD j (0, 0)).2 (h.getD k (0, 0)).1 (h.getD k (0, 0)).2) 0 != 1) = false := by
  rw [hj, hk] at ht
  unfold crP at ht
  unfold cmp
  rw [if_neg (by omega), if_pos ht]; rfl
theorem any_in {ps h : List (Int × Int)} {i : Nat} (hi : i < h.length) (hs : ∀ q ∈ h, q ∈ ps) : (ps.any (eqTo ((h.getD i (0, 0)).1, (h.getD i (0, 0)).2))) = true :=
  List.any_eq_true.2 ⟨_, hs _ (mem_getD hi), (eqTo_iff _ _).2 rfl⟩
end Go.Proofs.Ytadifmimefmcnaa.Am.Sp

