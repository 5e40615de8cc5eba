import Derived.Test.YtadifmimefmcnaaProg
import Derived.Test.YtadifmimefmcnaaM2
import Derived.Test.YtadifmimefmcnaaM7
import Derived.Test.YtadifmimefmcnaaM4
import Derived.Test.YtadifmimefmcnaaM3
import Derived.Test.YtadifmimefmcnaaM6
import Derived.Test.YtadifmimefmcnaaM0
set_option maxHeartbeats 4000000
set_option linter.unusedVariables false
set_option linter.unusedSimpArgs false
namespace Go.Proofs.Ytadifmimefmcnaa.Am
open Go Go.Proofs
theorem free_ok (X : List Row) (u k : Nat) (hX : ∀ i, Sp.Few 1048576 (X.getD i [])) (hz : ∀ i, i < X.length → 2 ≤ (X.getD i []).length ∧ (X.getD i []).length ≤ 200) (hn : X.length ≤ 20) (hi : u < X.length) (hk : 1 ≤ k ∧ k < (X.getD u []).length) :
    AC Try.prog 65 (1 + X.length) [.slice (some ⟨0, 0, none⟩) X.length 0, .int .i64 ((u : Nat) : Int), .int .i64 ((k : Nat) : Int)] (famP 24 29 X) (.bool (Sp.vR X u k)) [] := by
 have zi := hz u hi; have f1 := hX u k; have f2 := hX u (k - 1)
 refine acF Try.func65 ⟨.slice _ _ _ _ rfl, qT rfl, qT rfl, trivial⟩ rfl (fun w0 W pin => ?_)
 refine aw_e 3 1 1<|aw_d 7 (
  .a 2 1 <| .p (iX 36 16 17 0 0 X.length 1 ((u : Nat) : Int) oO oO) <|
  .p (lD 24 18 0 (0 + (((u : Nat) : Int)).toNat * 1) ⟨(hds (· + 200) X), 24, false, 1⟩ (.slice (some ⟨(u + 200), 0, none⟩) ((X.getD u []).length) 0) z24) <|
  .a 1 1 <| .p (qJ ((k - 1 : Nat) : Int) ((show (IntKind.wrap .i64 (((k : Nat) : Int) - 1)) = ((k - 1 : Nat) : Int) from ((wrap_i64 oO oO).trans oO))) .i64) <|
  .p (iX 24 19 21 (u + 200) 0 ((X.getD u []).length) 2 ((k - 1 : Nat) : Int) oO oO) <|
  .p (lD 29 22 (u + 200) (0 + (((k - 1 : Nat) : Int)).toNat * 2) ⟨((X.getD u []).flatMap ptc), 29, false, 2⟩ (.agg #[.int .i64 (((X.getD u []).getD (k - 1) (0, 0)).1), .int .i64 (((X.getD u []).getD (k - 1) (0, 0)).2)]) (qL (j := (k - 1)) kK kK oO oO)) <|
  .a 2 1 <| .p (iX 36 24 25 0 0 X.length 1 ((u : Nat) : Int) oO oO) <|
  .p (lD 24 26 0 (0 + (((u : Nat) : Int)).toNat * 1) ⟨(hds (· + 200) X), 24, false, 1⟩ (.slice (some ⟨(u + 200), 0, none⟩) ((X.getD u []).length) 0) z24) <|
  .a 1 1 <| .p (iX 24 27 28 (u + 200) 0 ((X.getD u []).length) 2 ((k : Nat) : Int) oO oO) <|
  .p (lD 29 29 (u + 200) (0 + (((k : Nat) : Int)).toNat * 2) ⟨((X.getD u []).flatMap ptc), 29, false, 2⟩ (.agg #[.int .i64 (((X.getD u []).getD k (0, 0)).1), .int .i64 (((X.getD u []).getD k (0, 0)).2)]) (qL (j := k) kK kK oO oO)) <|
  .e 4 1) ?_
 refine qD 14 15<|aw_p 29 (
  .a 2 3 <| .p (qV (((((X.getD u []).getD (k - 1) (0, 0)).1) == (((X.getD u []).getD k (0, 0)).1)) && (((((X.getD u []).getD (k - 1) (0, 0)).2) == (((X.getD u []).getD k (0, 0)).2)) && true)) (rfl)) <| .nil _ _) ?_
 refine qY 58 59 (((((X.getD u []).getD (k - 1) (0, 0)).1) == (((X.getD u []).getD k (0, 0)).1)) && (((((X.getD u []).getD (k - 1) (0, 0)).2) == (((X.getD u []).getD k (0, 0)).2)) && true)) (fun h1 => ?_) (fun h1 => ?_)
 ·have h1p : (((((X.getD u []).getD (k - 1) (0, 0)).1) = (((X.getD u []).getD k (0, 0)).1) ∧ (((X.getD u []).getD (k - 1) (0, 0)).2) = (((X.getD u []).getD k (0, 0)).2))) := pB h1
  exact aw_e 117 1 3<|qF<|qB [.bool false] (show (.bool false : Value) = (.bool (Sp.vR X u k)) from (congrArg Value.bool (show false = (Sp.vR X u k) from by (first | exact (Sp.fQ aA).symm | exact (Sp.gW hjl (Sp.c7 hji (Sp.jW hm.1 hml z30))).symm | exact (Sp.gW hjl (Sp.fW hji (Sp.jW hm.1 hml z31))).symm | exact (Sp.x7 aA z41).symm))))
 have h1p : ¬ (((((X.getD u []).getD (k - 1) (0, 0)).1) = (((X.getD u []).getD k (0, 0)).1) ∧ (((X.getD u []).getD (k - 1) (0, 0)).2) = (((X.getD u []).getD k (0, 0)).2))) := pB h1
 refine qH<|qD 30 31<|aw_p 61 (
  .a 2 3 <| .p (qJ ((u + 1 : Nat) : Int) ((show (IntKind.wrap .i64 (((u : Nat) : Int) + 1)) = ((u + 1 : Nat) : Int) from ((wrap_i64 oO oO).trans oO))) .i64) <|
  .p (jT (v' := .slice (some ⟨0, 0, none⟩) (u + 1) 0) (jN (t := 36) (x := .tmp 34) (lo := none) (hi := some (.tmp 36)) (k := 0) (off := 0) (n := X.length) (c := 0) (z := 1) (l := 0) (h := ((u + 1 : Nat) : Int)) (m := (u + 1)) (b := ⟨(hds (· + 200) X), 24, false, 1⟩) kK kK kK kK kK kK kK kK oO oO oO oO) kK) <|
  .e 2 3) ?_
 refine qM 0 123<|q6 247<|al_wFh (jS (fun i : Nat => (fun (j : Nat) => mkF 1 [(0, .slice (some ⟨0, 0, none⟩) X.length 0), (1, .int .i64 ((u : Nat) : Int)), (2, .int .i64 ((k : Nat) : Int)), (7, .pointer (some ⟨1, 0, none⟩)), (8, .pointer (some ⟨2, 0, none⟩)), (37, .slice (some ⟨0, 0, none⟩) (u + 1) 0), (38, .int .i64 ((u + 1 : Nat) : Int)), (39, .int .i64 ((j : Nat) : Int))] [(0, ⟨(hds (· + 200) X), 24, false, 1⟩), (1, ⟨[.int .i64 (((X.getD u []).getD (k - 1) (0, 0)).1), .int .i64 (((X.getD u []).getD (k - 1) (0, 0)).2)], 29, true, 2⟩), (2, ⟨[.int .i64 (((X.getD u []).getD k (0, 0)).1), .int .i64 (((X.getD u []).getD k (0, 0)).2)], 29, true, 2⟩)] (famR 29 X)) i) (fun i : Nat => (fun (j : Nat) => (j ≤ u + 1) ∧ ((List.range j).all (Sp.fro X u k) = true)) i) (fun i : Nat => (fun (j : Nat) => u + 1 - j) i) (fun i hi1 ih1 => ?_) 0 (show (0 ≤ u + 1) ∧ ((List.range 0).all (Sp.fro X u k) = true) from ⟨by omega, by rfl⟩)) ⟨(jJ _ _ _), kK, kK, trivial⟩ (qS _ _)
 obtain ⟨j, hv1⟩ : ∃ z, z = i := ⟨i, rfl⟩; subst hv1
 have hi1' : (j ≤ u + 1) ∧ ((List.range j).all (Sp.fro X u k) = true) := hi1
 obtain ⟨hj, hA⟩ := hi1'
 show AL _ _ _ (mkF _ _ _ _) _
 refine qE<|aw_e 495 1 3<|qD 990 991<|qY 1980 1981 (decide (((j : Nat) : Int) < ((u + 1 : Nat) : Int))) (fun h2 => ?_) (fun h2 => ?_)
 ·have h2p : ((((j : Nat) : Int) < ((u + 1 : Nat) : Int))) := pB h2
  have hjl : j < u + 1 := by omega
  refine qH<|qD 1982 1983<|qM 1 3965<|aw_p 7931 (
   .a 1 3 <| .p (iX 36 37 39 0 0 (u + 1) 1 ((j : Nat) : Int) oO oO) <|
   .p (lD 24 42 0 (0 + (((j : Nat) : Int)).toNat * 1) ⟨(hds (· + 200) X), 24, false, 1⟩ (.slice (some ⟨(j + 200), 0, none⟩) ((X.getD j []).length) 0) (by rw [show (0 + (((j : Nat) : Int)).toNat * 1) = j from oO]; exact cY kK kK oO)) <|
   .e 2 3) ?_
  refine aw_e 15863 3 3<|qD 31726 31727<|aw_e 63453 3 3<|qY 126906 126907 (((j : Nat) : Int) == ((u : Nat) : Int)) (fun h3 => ?_) (fun h3 => ?_)
  ·have h3p : ((((j : Nat) : Int) = ((u : Nat) : Int))) := pB h3
   refine aw_e1 2 3<|aw_e 63455 1 3<|qM 2 126911 ?_
   have hji : j = u := by omega
   have hlj : k ≤ (X.getD j []).length := (by rw [hji]; omega)
   have zj := hz j oO
   refine q6 253823<|al_wFh (jS (fun i : Nat => (fun (m : Nat) => mkF 1 [(0, .slice (some ⟨0, 0, none⟩) X.length 0), (1, .int .i64 ((u : Nat) : Int)), (2, .int .i64 ((k : Nat) : Int)), (7, .pointer (some ⟨1, 0, none⟩)), (8, .pointer (some ⟨2, 0, none⟩)), (9, .int .i64 ((j : Nat) : Int)), (10, .slice (some ⟨(j + 200), 0, none⟩) ((X.getD j []).length) 0), (11, .int .i64 ((k : Nat) : Int)), (12, .int .i64 ((m : Nat) : Int)), (37, .slice (some ⟨0, 0, none⟩) (u + 1) 0), (38, .int .i64 ((u + 1 : Nat) : Int)), (39, .int .i64 ((j : Nat) : Int))] [(0, ⟨(hds (· + 200) X), 24, false, 1⟩), (1, ⟨[.int .i64 (((X.getD u []).getD (k - 1) (0, 0)).1), .int .i64 (((X.getD u []).getD (k - 1) (0, 0)).2)], 29, true, 2⟩), (2, ⟨[.int .i64 (((X.getD u []).getD k (0, 0)).1), .int .i64 (((X.getD u []).getD k (0, 0)).2)], 29, true, 2⟩)] (famR 29 X)) i) (fun i : Nat => (fun (m : Nat) => (1 ≤ m ∧ m ≤ k) ∧ (Sp.gD (X.getD u []) k true (X.getD j []) m = true)) i) (fun i : Nat => (fun (m : Nat) => k - m) i) (fun i hi2 ih2 => ?_) 1 (show (1 ≤ 1 ∧ 1 ≤ k) ∧ (Sp.gD (X.getD u []) k true (X.getD j []) 1 = true) from ⟨by omega, by rfl⟩)) ⟨(jJ _ _ _), kK, kK, trivial⟩ (qS _ _)
   obtain ⟨m, hv2⟩ : ∃ z, z = i := ⟨i, rfl⟩; subst hv2
   have hi2' : (1 ≤ m ∧ m ≤ k) ∧ (Sp.gD (X.getD u []) k true (X.getD j []) m = true) := hi2
   obtain ⟨hm, hB⟩ := hi2'
   show AL _ _ _ (mkF _ _ _ _) _
   have g1 := hX j m; have g2 := hX j (m - 1)
   refine qE<|qD 507646 507647<|aw_e 1015293 3 3<|qY 2030586 2030587 (decide (((m : Nat) : Int) < ((k : Nat) : Int))) (fun h4 => ?_) (fun h4 => ?_)
   ·have h4p : ((((m : Nat) : Int) < ((k : Nat) : Int))) := pB h4
    have hml : m < k := by omega
    refine qH<|qD 1015294 1015295<|qM 3 2030589<|aw_d 4061179 (
     .a 2 3 <| .p (qJ ((m - 1 : Nat) : Int) ((show (IntKind.wrap .i64 (((m : Nat) : Int) - 1)) = ((m - 1 : Nat) : Int) from ((wrap_i64 oO oO).trans oO))) .i64) <|
     .p (iX 24 55 57 (j + 200) 0 ((X.getD j []).length) 2 ((m - 1 : Nat) : Int) oO oO) <|
     .p (lD 29 58 (j + 200) (0 + (((m - 1 : Nat) : Int)).toNat * 2) ⟨((X.getD j []).flatMap ptc), 29, false, 2⟩ (.agg #[.int .i64 (((X.getD j []).getD (m - 1) (0, 0)).1), .int .i64 (((X.getD j []).getD (m - 1) (0, 0)).2)]) (qL (j := (m - 1)) kK kK oO oO)) <|
     .a 2 3 <| .p (iX 24 60 61 (j + 200) 0 ((X.getD j []).length) 2 ((m : Nat) : Int) oO oO) <|
     .p (lD 29 62 (j + 200) (0 + (((m : Nat) : Int)).toNat * 2) ⟨((X.getD j []).flatMap ptc), 29, false, 2⟩ (.agg #[.int .i64 (((X.getD j []).getD m (0, 0)).1), .int .i64 (((X.getD j []).getD m (0, 0)).2)]) (qL (j := m) kK kK oO oO)) <|
     .e 4 3) ?_
    refine aw_p 8122359 (
     .a 4 5 <|
     .p (qC (pS (((X.getD u []).getD (k - 1) (0, 0)).1) (((X.getD u []).getD (k - 1) (0, 0)).2) (((X.getD u []).getD k (0, 0)).1) (((X.getD u []).getD k (0, 0)).2) (((X.getD j []).getD (m - 1) (0, 0)).1) (((X.getD j []).getD (m - 1) (0, 0)).2) (((X.getD j []).getD m (0, 0)).1) (((X.getD j []).getD m (0, 0)).2) oO oO oO oO oO oO oO oO oO oO oO oO oO oO oO oO)) <|
     .e 1 5) ?_
    refine qM 4 16244719<|aw_e 32489439 3 5<|qY 64978878 64978879 ((Sp.qX (((X.getD u []).getD (k - 1) (0, 0)).1) (((X.getD u []).getD (k - 1) (0, 0)).2) (((X.getD u []).getD k (0, 0)).1) (((X.getD u []).getD k (0, 0)).2) (((X.getD j []).getD (m - 1) (0, 0)).1) (((X.getD j []).getD (m - 1) (0, 0)).2) (((X.getD j []).getD m (0, 0)).1) (((X.getD j []).getD m (0, 0)).2)) == 0) (fun h5 => ?_) (fun h5 => ?_)
    ·have h5p : (((Sp.qX (((X.getD u []).getD (k - 1) (0, 0)).1) (((X.getD u []).getD (k - 1) (0, 0)).2) (((X.getD u []).getD k (0, 0)).1) (((X.getD u []).getD k (0, 0)).2) (((X.getD j []).getD (m - 1) (0, 0)).1) (((X.getD j []).getD (m - 1) (0, 0)).2) (((X.getD j []).getD m (0, 0)).1) (((X.getD j []).getD m (0, 0)).2)) = 0)) := pB h5
     refine qH<|qW (
      .a 1 5 <| .p (qJ (((m : Nat) : Int) + 1) (wrap_i64 oO oO) .i64) <| .e 1 5) ?_
     exact al_wFh (ih2 (m + 1) (show (1 ≤ (m + 1) ∧ (m + 1) ≤ k) ∧ (Sp.gD (X.getD u []) k true (X.getD j []) (m + 1) = true) from ⟨by omega, by (exact Sp.vX hB z20)⟩) (show k - (m + 1) < k - m from by omega)) ⟨(jJ _ _ _), kK, kK, trivial⟩ (qS _ _)
    have h5p : ¬ (((Sp.qX (((X.getD u []).getD (k - 1) (0, 0)).1) (((X.getD u []).getD (k - 1) (0, 0)).2) (((X.getD u []).getD k (0, 0)).1) (((X.getD u []).getD k (0, 0)).2) (((X.getD j []).getD (m - 1) (0, 0)).1) (((X.getD j []).getD (m - 1) (0, 0)).2) (((X.getD j []).getD m (0, 0)).1) (((X.getD j []).getD m (0, 0)).2)) = 0)) := pB h5
    rcases Bool.eq_false_or_eq_true ((Sp.qX (((X.getD u []).getD (k - 1) (0, 0)).1) (((X.getD u []).getD (k - 1) (0, 0)).2) (((X.getD u []).getD k (0, 0)).1) (((X.getD u []).getD k (0, 0)).2) (((X.getD j []).getD (m - 1) (0, 0)).1) (((X.getD j []).getD (m - 1) (0, 0)).2) (((X.getD j []).getD m (0, 0)).1) (((X.getD j []).getD m (0, 0)).2)) == 1) with h6 | h6
    ·have h6p : (((Sp.qX (((X.getD u []).getD (k - 1) (0, 0)).1) (((X.getD u []).getD (k - 1) (0, 0)).2) (((X.getD u []).getD k (0, 0)).1) (((X.getD u []).getD k (0, 0)).2) (((X.getD j []).getD (m - 1) (0, 0)).1) (((X.getD j []).getD (m - 1) (0, 0)).2) (((X.getD j []).getD m (0, 0)).1) (((X.getD j []).getD m (0, 0)).2)) = 1)) := pB h6
     rcases Bool.eq_false_or_eq_true (((j : Nat) : Int) == ((u : Nat) : Int)) with h7 | h7
     ·have h7p : ((((j : Nat) : Int) = ((u : Nat) : Int))) := pB h7
      refine aw_p 129957759 (
       .a 1 5 <| .p (qN true (h6)) <| .a 3 5 <| .p (qN true (h7)) <| .a 4 5 <| .p (qJ (((k : Nat) : Int) - 1) (wrap_i64 oO oO) .i64) <| .e 3 5) ?_
      refine qY 259915518 259915519 (((m : Nat) : Int) == (((k : Nat) : Int) - 1)) (fun h8 => ?_) (fun h8 => ?_)
      ·have h8p : ((((m : Nat) : Int) = (((k : Nat) : Int) - 1))) := pB h8
       refine qH<|qW (
        .a 1 5 <| .p (qJ (((m : Nat) : Int) + 1) (wrap_i64 oO oO) .i64) <| .e 1 5) ?_
       exact al_wFh (ih2 (m + 1) (show (1 ≤ (m + 1) ∧ (m + 1) ≤ k) ∧ (Sp.gD (X.getD u []) k true (X.getD j []) (m + 1) = true) from ⟨by omega, by (exact Sp.vX hB z20)⟩) (show k - (m + 1) < k - m from by omega)) ⟨(jJ _ _ _), kK, kK, trivial⟩ (qS _ _)
      have h8p : ¬ ((((m : Nat) : Int) = (((k : Nat) : Int) - 1))) := pB h8
      refine aw_p 519831039 (
       .a 1 5 <| .p (qN true (h6)) <| .a 3 5 <|
       .p (iX 36 90 91 0 0 X.length 1 ((u : Nat) : Int) oO oO) <|
       .p (lD 24 92 0 (0 + (((u : Nat) : Int)).toNat * 1) ⟨(hds (· + 200) X), 24, false, 1⟩ (.slice (some ⟨(u + 200), 0, none⟩) ((X.getD u []).length) 0) z24) <|
       .a 3 5 <|
       .p (yJ [(u + 200), (j + 200)] #[.tmp 93, .tmp 94, .tmp 95, .tmp 96] #[24, 3, 24, 3] [.slice (some ⟨(u + 200), 0, none⟩) ((X.getD u []).length) 0, .int .i64 ((k : Nat) : Int), .slice (some ⟨(j + 200), 0, none⟩) ((X.getD j []).length) 0, .int .i64 ((m : Nat) : Int)] [(29, false), (29, false)] (nY (X.getD u []) (X.getD j []) k m hk ⟨hm.1, by omega⟩ oO oO) (.cons (.slice _ _ _ _ _ dD) (.cons (.flatB kK) (.cons (.slice _ _ _ _ _ dD) (.cons (.flatB kK) .nil)))) ⟨⟨rfl, qA _⟩, ⟨rfl, qA _⟩, trivial⟩) <|
       .e 2 5) ?_
      refine qY 1039662078 1039662079 (Sp.jG (X.getD u []) k (X.getD j []) m) (fun h9 => ?_) (fun h9 => ?_)
      ·refine qH<|qW (
        .a 1 5 <| .p (qJ (((m : Nat) : Int) + 1) (wrap_i64 oO oO) .i64) <| .e 1 5) ?_
       exact al_wFh (ih2 (m + 1) (show (1 ≤ (m + 1) ∧ (m + 1) ≤ k) ∧ (Sp.gD (X.getD u []) k true (X.getD j []) (m + 1) = true) from ⟨by omega, by (exact Sp.vX hB z20)⟩) (show k - (m + 1) < k - m from by omega)) ⟨(jJ _ _ _), kK, kK, trivial⟩ (qS _ _)
      exact aw_e 2079324159 1 5<|qF<|qB [.bool false] (show (.bool false : Value) = (.bool (Sp.vR X u k)) from (congrArg Value.bool (show false = (Sp.vR X u k) from by (first | exact (Sp.fQ aA).symm | exact (Sp.gW hjl (Sp.c7 hji (Sp.jW hm.1 hml z30))).symm | exact (Sp.gW hjl (Sp.fW hji (Sp.jW hm.1 hml z31))).symm | exact (Sp.x7 aA z41).symm))))
     have h7p : ¬ ((((j : Nat) : Int) = ((u : Nat) : Int))) := pB h7
     refine aw_p 129957759 (
      .a 1 5 <| .p (qN true (h6)) <| .a 3 5 <| .p (qN false (h7)) <| .e 8 5) ?_
     refine qP 259915519<|aw_p 519831039 (
      .a 1 5 <| .p (qN true (h6)) <| .a 3 5 <|
      .p (iX 36 90 91 0 0 X.length 1 ((u : Nat) : Int) oO oO) <|
      .p (lD 24 92 0 (0 + (((u : Nat) : Int)).toNat * 1) ⟨(hds (· + 200) X), 24, false, 1⟩ (.slice (some ⟨(u + 200), 0, none⟩) ((X.getD u []).length) 0) z24) <|
      .a 3 5 <|
      .p (yJ [(u + 200), (j + 200)] #[.tmp 93, .tmp 94, .tmp 95, .tmp 96] #[24, 3, 24, 3] [.slice (some ⟨(u + 200), 0, none⟩) ((X.getD u []).length) 0, .int .i64 ((k : Nat) : Int), .slice (some ⟨(j + 200), 0, none⟩) ((X.getD j []).length) 0, .int .i64 ((m : Nat) : Int)] [(29, false), (29, false)] (nY (X.getD u []) (X.getD j []) k m hk ⟨hm.1, by omega⟩ oO oO) (.cons (.slice _ _ _ _ _ dD) (.cons (.flatB kK) (.cons (.slice _ _ _ _ _ dD) (.cons (.flatB kK) .nil)))) ⟨⟨rfl, qA _⟩, ⟨rfl, qA _⟩, trivial⟩) <|
      .e 2 5) ?_
     refine qY 1039662078 1039662079 (Sp.jG (X.getD u []) k (X.getD j []) m) (fun h10 => ?_) (fun h10 => ?_)
     ·refine qH<|qW (
       .a 1 5 <| .p (qJ (((m : Nat) : Int) + 1) (wrap_i64 oO oO) .i64) <| .e 1 5) ?_
      exact al_wFh (ih2 (m + 1) (show (1 ≤ (m + 1) ∧ (m + 1) ≤ k) ∧ (Sp.gD (X.getD u []) k true (X.getD j []) (m + 1) = true) from ⟨by omega, by (exact Sp.vX hB z20)⟩) (show k - (m + 1) < k - m from by omega)) ⟨(jJ _ _ _), kK, kK, trivial⟩ (qS _ _)
     exact aw_e 2079324159 1 5<|qF<|qB [.bool false] (show (.bool false : Value) = (.bool (Sp.vR X u k)) from (congrArg Value.bool (show false = (Sp.vR X u k) from by (first | exact (Sp.fQ aA).symm | exact (Sp.gW hjl (Sp.c7 hji (Sp.jW hm.1 hml z30))).symm | exact (Sp.gW hjl (Sp.fW hji (Sp.jW hm.1 hml z31))).symm | exact (Sp.x7 aA z41).symm))))
    have h6p : ¬ (((Sp.qX (((X.getD u []).getD (k - 1) (0, 0)).1) (((X.getD u []).getD (k - 1) (0, 0)).2) (((X.getD u []).getD k (0, 0)).1) (((X.getD u []).getD k (0, 0)).2) (((X.getD j []).getD (m - 1) (0, 0)).1) (((X.getD j []).getD (m - 1) (0, 0)).2) (((X.getD j []).getD m (0, 0)).1) (((X.getD j []).getD m (0, 0)).2)) = 1)) := pB h6
    refine aw_p 129957759 (
     .a 1 5 <| .p (qN false (h6)) <| .e 12 5) ?_
    refine qP 259915519<|aw_p 519831039 (
     .a 1 5 <| .p (qN false (h6)) <| .e 11 5) ?_
    exact qP 1039662079<|aw_e 2079324159 1 5<|qF<|qB [.bool false] (show (.bool false : Value) = (.bool (Sp.vR X u k)) from (congrArg Value.bool (show false = (Sp.vR X u k) from by (first | exact (Sp.fQ aA).symm | exact (Sp.gW hjl (Sp.c7 hji (Sp.jW hm.1 hml z30))).symm | exact (Sp.gW hjl (Sp.fW hji (Sp.jW hm.1 hml z31))).symm | exact (Sp.x7 aA z41).symm))))
   have h4p : ¬ ((((m : Nat) : Int) < ((k : Nat) : Int))) := pB h4
   have hme : m = k := by omega
   refine q5 2<|qG<|qW (
    .p (qJ (((j : Nat) : Int) + 1) (wrap_i64 oO oO) .i64) <| .e 1 3) ?_
   exact al_wFh (ih1 (j + 1) (show ((j + 1) ≤ u + 1) ∧ ((List.range (j + 1)).all (Sp.fro X u k) = true) from ⟨by omega, by (exact Sp.xQ hA (by first | exact Sp.c7 hji (by rw [hme] at hB; exact hB) | exact Sp.fW hji (by rw [hme] at hB; exact hB)))⟩) (show u + 1 - (j + 1) < u + 1 - j from by omega)) ⟨(jJ _ _ _), kK, kK, trivial⟩ (qS _ _)
  have h3p : ¬ ((((j : Nat) : Int) = ((u : Nat) : Int))) := pB h3
  refine qH<|aw_e 63455 1 3<|qM 2 126911 ?_
  have hji : j ≠ u := by omega
  have hlj : (X.getD j []).length ≤ (X.getD j []).length := Nat.le_refl _
  have zj := hz j oO
  refine q6 253823<|al_wFh (jS (fun i : Nat => (fun (m : Nat) => mkF 1 [(0, .slice (some ⟨0, 0, none⟩) X.length 0), (1, .int .i64 ((u : Nat) : Int)), (2, .int .i64 ((k : Nat) : Int)), (7, .pointer (some ⟨1, 0, none⟩)), (8, .pointer (some ⟨2, 0, none⟩)), (9, .int .i64 ((j : Nat) : Int)), (10, .slice (some ⟨(j + 200), 0, none⟩) ((X.getD j []).length) 0), (11, .int .i64 (((X.getD j []).length : Nat) : Int)), (12, .int .i64 ((m : Nat) : Int)), (37, .slice (some ⟨0, 0, none⟩) (u + 1) 0), (38, .int .i64 ((u + 1 : Nat) : Int)), (39, .int .i64 ((j : Nat) : Int))] [(0, ⟨(hds (· + 200) X), 24, false, 1⟩), (1, ⟨[.int .i64 (((X.getD u []).getD (k - 1) (0, 0)).1), .int .i64 (((X.getD u []).getD (k - 1) (0, 0)).2)], 29, true, 2⟩), (2, ⟨[.int .i64 (((X.getD u []).getD k (0, 0)).1), .int .i64 (((X.getD u []).getD k (0, 0)).2)], 29, true, 2⟩)] (famR 29 X)) i) (fun i : Nat => (fun (m : Nat) => (1 ≤ m ∧ m ≤ (X.getD j []).length) ∧ (Sp.gD (X.getD u []) k false (X.getD j []) m = true)) i) (fun i : Nat => (fun (m : Nat) => ((X.getD j []).length) - m) i) (fun i hi3 ih3 => ?_) 1 (show (1 ≤ 1 ∧ 1 ≤ (X.getD j []).length) ∧ (Sp.gD (X.getD u []) k false (X.getD j []) 1 = true) from ⟨by omega, by rfl⟩)) ⟨(jJ _ _ _), kK, kK, trivial⟩ (qS _ _)
  obtain ⟨m, hv3⟩ : ∃ z, z = i := ⟨i, rfl⟩; subst hv3
  have hi3' : (1 ≤ m ∧ m ≤ (X.getD j []).length) ∧ (Sp.gD (X.getD u []) k false (X.getD j []) m = true) := hi3
  obtain ⟨hm, hB⟩ := hi3'
  show AL _ _ _ (mkF _ _ _ _) _
  have g1 := hX j m; have g2 := hX j (m - 1)
  refine qE<|qD 507646 507647<|aw_e 1015293 3 3<|qY 2030586 2030587 (decide (((m : Nat) : Int) < (((X.getD j []).length : Nat) : Int))) (fun h11 => ?_) (fun h11 => ?_)
  ·have h11p : ((((m : Nat) : Int) < (((X.getD j []).length : Nat) : Int))) := pB h11
   have hml : m < (X.getD j []).length := by omega
   refine qH<|qD 1015294 1015295<|qM 3 2030589<|aw_d 4061179 (
    .a 2 3 <| .p (qJ ((m - 1 : Nat) : Int) ((show (IntKind.wrap .i64 (((m : Nat) : Int) - 1)) = ((m - 1 : Nat) : Int) from ((wrap_i64 oO oO).trans oO))) .i64) <|
    .p (iX 24 55 57 (j + 200) 0 ((X.getD j []).length) 2 ((m - 1 : Nat) : Int) oO oO) <|
    .p (lD 29 58 (j + 200) (0 + (((m - 1 : Nat) : Int)).toNat * 2) ⟨((X.getD j []).flatMap ptc), 29, false, 2⟩ (.agg #[.int .i64 (((X.getD j []).getD (m - 1) (0, 0)).1), .int .i64 (((X.getD j []).getD (m - 1) (0, 0)).2)]) (qL (j := (m - 1)) kK kK oO oO)) <|
    .a 2 3 <| .p (iX 24 60 61 (j + 200) 0 ((X.getD j []).length) 2 ((m : Nat) : Int) oO oO) <|
    .p (lD 29 62 (j + 200) (0 + (((m : Nat) : Int)).toNat * 2) ⟨((X.getD j []).flatMap ptc), 29, false, 2⟩ (.agg #[.int .i64 (((X.getD j []).getD m (0, 0)).1), .int .i64 (((X.getD j []).getD m (0, 0)).2)]) (qL (j := m) kK kK oO oO)) <|
    .e 4 3) ?_
   refine aw_p 8122359 (
    .a 4 5 <|
    .p (qC (pS (((X.getD u []).getD (k - 1) (0, 0)).1) (((X.getD u []).getD (k - 1) (0, 0)).2) (((X.getD u []).getD k (0, 0)).1) (((X.getD u []).getD k (0, 0)).2) (((X.getD j []).getD (m - 1) (0, 0)).1) (((X.getD j []).getD (m - 1) (0, 0)).2) (((X.getD j []).getD m (0, 0)).1) (((X.getD j []).getD m (0, 0)).2) oO oO oO oO oO oO oO oO oO oO oO oO oO oO oO oO)) <|
    .e 1 5) ?_
   refine qM 4 16244719<|aw_e 32489439 3 5<|qY 64978878 64978879 ((Sp.qX (((X.getD u []).getD (k - 1) (0, 0)).1) (((X.getD u []).getD (k - 1) (0, 0)).2) (((X.getD u []).getD k (0, 0)).1) (((X.getD u []).getD k (0, 0)).2) (((X.getD j []).getD (m - 1) (0, 0)).1) (((X.getD j []).getD (m - 1) (0, 0)).2) (((X.getD j []).getD m (0, 0)).1) (((X.getD j []).getD m (0, 0)).2)) == 0) (fun h12 => ?_) (fun h12 => ?_)
   ·have h12p : (((Sp.qX (((X.getD u []).getD (k - 1) (0, 0)).1) (((X.getD u []).getD (k - 1) (0, 0)).2) (((X.getD u []).getD k (0, 0)).1) (((X.getD u []).getD k (0, 0)).2) (((X.getD j []).getD (m - 1) (0, 0)).1) (((X.getD j []).getD (m - 1) (0, 0)).2) (((X.getD j []).getD m (0, 0)).1) (((X.getD j []).getD m (0, 0)).2)) = 0)) := pB h12
    refine qH<|qW (
     .a 1 5 <| .p (qJ (((m : Nat) : Int) + 1) (wrap_i64 oO oO) .i64) <| .e 1 5) ?_
    exact al_wFh (ih3 (m + 1) (show (1 ≤ (m + 1) ∧ (m + 1) ≤ (X.getD j []).length) ∧ (Sp.gD (X.getD u []) k false (X.getD j []) (m + 1) = true) from ⟨by omega, by (exact Sp.vX hB z20)⟩) (show ((X.getD j []).length) - (m + 1) < ((X.getD j []).length) - m from by omega)) ⟨(jJ _ _ _), kK, kK, trivial⟩ (qS _ _)
   have h12p : ¬ (((Sp.qX (((X.getD u []).getD (k - 1) (0, 0)).1) (((X.getD u []).getD (k - 1) (0, 0)).2) (((X.getD u []).getD k (0, 0)).1) (((X.getD u []).getD k (0, 0)).2) (((X.getD j []).getD (m - 1) (0, 0)).1) (((X.getD j []).getD (m - 1) (0, 0)).2) (((X.getD j []).getD m (0, 0)).1) (((X.getD j []).getD m (0, 0)).2)) = 0)) := pB h12
   rcases Bool.eq_false_or_eq_true ((Sp.qX (((X.getD u []).getD (k - 1) (0, 0)).1) (((X.getD u []).getD (k - 1) (0, 0)).2) (((X.getD u []).getD k (0, 0)).1) (((X.getD u []).getD k (0, 0)).2) (((X.getD j []).getD (m - 1) (0, 0)).1) (((X.getD j []).getD (m - 1) (0, 0)).2) (((X.getD j []).getD m (0, 0)).1) (((X.getD j []).getD m (0, 0)).2)) == 1) with h13 | h13
   ·have h13p : (((Sp.qX (((X.getD u []).getD (k - 1) (0, 0)).1) (((X.getD u []).getD (k - 1) (0, 0)).2) (((X.getD u []).getD k (0, 0)).1) (((X.getD u []).getD k (0, 0)).2) (((X.getD j []).getD (m - 1) (0, 0)).1) (((X.getD j []).getD (m - 1) (0, 0)).2) (((X.getD j []).getD m (0, 0)).1) (((X.getD j []).getD m (0, 0)).2)) = 1)) := pB h13
    rcases Bool.eq_false_or_eq_true (((j : Nat) : Int) == ((u : Nat) : Int)) with h14 | h14
    ·have h14p : ((((j : Nat) : Int) = ((u : Nat) : Int))) := pB h14
     refine aw_p 129957759 (
      .a 1 5 <| .p (qN true (h13)) <| .a 3 5 <| .p (qN true (h14)) <| .a 4 5 <| .p (qJ (((k : Nat) : Int) - 1) (wrap_i64 oO oO) .i64) <| .e 3 5) ?_
     refine qY 259915518 259915519 (((m : Nat) : Int) == (((k : Nat) : Int) - 1)) (fun h15 => ?_) (fun h15 => ?_)
     ·have h15p : ((((m : Nat) : Int) = (((k : Nat) : Int) - 1))) := pB h15
      refine qH<|qW (
       .a 1 5 <| .p (qJ (((m : Nat) : Int) + 1) (wrap_i64 oO oO) .i64) <| .e 1 5) ?_
      exact al_wFh (ih3 (m + 1) (show (1 ≤ (m + 1) ∧ (m + 1) ≤ (X.getD j []).length) ∧ (Sp.gD (X.getD u []) k false (X.getD j []) (m + 1) = true) from ⟨by omega, by (exact Sp.vX hB z20)⟩) (show ((X.getD j []).length) - (m + 1) < ((X.getD j []).length) - m from by omega)) ⟨(jJ _ _ _), kK, kK, trivial⟩ (qS _ _)
     have h15p : ¬ ((((m : Nat) : Int) = (((k : Nat) : Int) - 1))) := pB h15
     refine aw_p 519831039 (
      .a 1 5 <| .p (qN true (h13)) <| .a 3 5 <|
      .p (iX 36 90 91 0 0 X.length 1 ((u : Nat) : Int) oO oO) <|
      .p (lD 24 92 0 (0 + (((u : Nat) : Int)).toNat * 1) ⟨(hds (· + 200) X), 24, false, 1⟩ (.slice (some ⟨(u + 200), 0, none⟩) ((X.getD u []).length) 0) z24) <|
      .a 3 5 <|
      .p (yJ [(u + 200), (j + 200)] #[.tmp 93, .tmp 94, .tmp 95, .tmp 96] #[24, 3, 24, 3] [.slice (some ⟨(u + 200), 0, none⟩) ((X.getD u []).length) 0, .int .i64 ((k : Nat) : Int), .slice (some ⟨(j + 200), 0, none⟩) ((X.getD j []).length) 0, .int .i64 ((m : Nat) : Int)] [(29, false), (29, false)] (nY (X.getD u []) (X.getD j []) k m hk ⟨hm.1, by omega⟩ oO oO) (.cons (.slice _ _ _ _ _ dD) (.cons (.flatB kK) (.cons (.slice _ _ _ _ _ dD) (.cons (.flatB kK) .nil)))) ⟨⟨rfl, qA _⟩, ⟨rfl, qA _⟩, trivial⟩) <|
      .e 2 5) ?_
     refine qY 1039662078 1039662079 (Sp.jG (X.getD u []) k (X.getD j []) m) (fun h16 => ?_) (fun h16 => ?_)
     ·refine qH<|qW (
       .a 1 5 <| .p (qJ (((m : Nat) : Int) + 1) (wrap_i64 oO oO) .i64) <| .e 1 5) ?_
      exact al_wFh (ih3 (m + 1) (show (1 ≤ (m + 1) ∧ (m + 1) ≤ (X.getD j []).length) ∧ (Sp.gD (X.getD u []) k false (X.getD j []) (m + 1) = true) from ⟨by omega, by (exact Sp.vX hB z20)⟩) (show ((X.getD j []).length) - (m + 1) < ((X.getD j []).length) - m from by omega)) ⟨(jJ _ _ _), kK, kK, trivial⟩ (qS _ _)
     exact aw_e 2079324159 1 5<|qF<|qB [.bool false] (show (.bool false : Value) = (.bool (Sp.vR X u k)) from (congrArg Value.bool (show false = (Sp.vR X u k) from by (first | exact (Sp.fQ aA).symm | exact (Sp.gW hjl (Sp.c7 hji (Sp.jW hm.1 hml z30))).symm | exact (Sp.gW hjl (Sp.fW hji (Sp.jW hm.1 hml z31))).symm | exact (Sp.x7 aA z41).symm))))
    have h14p : ¬ ((((j : Nat) : Int) = ((u : Nat) : Int))) := pB h14
    refine aw_p 129957759 (
     .a 1 5 <| .p (qN true (h13)) <| .a 3 5 <| .p (qN false (h14)) <| .e 8 5) ?_
    refine qP 259915519<|aw_p 519831039 (
     .a 1 5 <| .p (qN true (h13)) <| .a 3 5 <|
     .p (iX 36 90 91 0 0 X.length 1 ((u : Nat) : Int) oO oO) <|
     .p (lD 24 92 0 (0 + (((u : Nat) : Int)).toNat * 1) ⟨(hds (· + 200) X), 24, false, 1⟩ (.slice (some ⟨(u + 200), 0, none⟩) ((X.getD u []).length) 0) z24) <|
     .a 3 5 <|
     .p (yJ [(u + 200), (j + 200)] #[.tmp 93, .tmp 94, .tmp 95, .tmp 96] #[24, 3, 24, 3] [.slice (some ⟨(u + 200), 0, none⟩) ((X.getD u []).length) 0, .int .i64 ((k : Nat) : Int), .slice (some ⟨(j + 200), 0, none⟩) ((X.getD j []).length) 0, .int .i64 ((m : Nat) : Int)] [(29, false), (29, false)] (nY (X.getD u []) (X.getD j []) k m hk ⟨hm.1, by omega⟩ oO oO) (.cons (.slice _ _ _ _ _ dD) (.cons (.flatB kK) (.cons (.slice _ _ _ _ _ dD) (.cons (.flatB kK) .nil)))) ⟨⟨rfl, qA _⟩, ⟨rfl, qA _⟩, trivial⟩) <|
     .e 2 5) ?_
    refine qY 1039662078 1039662079 (Sp.jG (X.getD u []) k (X.getD j []) m) (fun h17 => ?_) (fun h17 => ?_)
    ·refine qH<|qW (
      .a 1 5 <| .p (qJ (((m : Nat) : Int) + 1) (wrap_i64 oO oO) .i64) <| .e 1 5) ?_
     exact al_wFh (ih3 (m + 1) (show (1 ≤ (m + 1) ∧ (m + 1) ≤ (X.getD j []).length) ∧ (Sp.gD (X.getD u []) k false (X.getD j []) (m + 1) = true) from ⟨by omega, by (exact Sp.vX hB z20)⟩) (show ((X.getD j []).length) - (m + 1) < ((X.getD j []).length) - m from by omega)) ⟨(jJ _ _ _), kK, kK, trivial⟩ (qS _ _)
    exact aw_e 2079324159 1 5<|qF<|qB [.bool false] (show (.bool false : Value) = (.bool (Sp.vR X u k)) from (congrArg Value.bool (show false = (Sp.vR X u k) from by (first | exact (Sp.fQ aA).symm | exact (Sp.gW hjl (Sp.c7 hji (Sp.jW hm.1 hml z30))).symm | exact (Sp.gW hjl (Sp.fW hji (Sp.jW hm.1 hml z31))).symm | exact (Sp.x7 aA z41).symm))))
   have h13p : ¬ (((Sp.qX (((X.getD u []).getD (k - 1) (0, 0)).1) (((X.getD u []).getD (k - 1) (0, 0)).2) (((X.getD u []).getD k (0, 0)).1) (((X.getD u []).getD k (0, 0)).2) (((X.getD j []).getD (m - 1) (0, 0)).1) (((X.getD j []).getD (m - 1) (0, 0)).2) (((X.getD j []).getD m (0, 0)).1) (((X.getD j []).getD m (0, 0)).2)) = 1)) := pB h13
   refine aw_p 129957759 (
    .a 1 5 <| .p (qN false (h13)) <| .e 12 5) ?_
   refine qP 259915519<|aw_p 519831039 (
    .a 1 5 <| .p (qN false (h13)) <| .e 11 5) ?_
   exact qP 1039662079<|aw_e 2079324159 1 5<|qF<|qB [.bool false] (show (.bool false : Value) = (.bool (Sp.vR X u k)) from (congrArg Value.bool (show false = (Sp.vR X u k) from by (first | exact (Sp.fQ aA).symm | exact (Sp.gW hjl (Sp.c7 hji (Sp.jW hm.1 hml z30))).symm | exact (Sp.gW hjl (Sp.fW hji (Sp.jW hm.1 hml z31))).symm | exact (Sp.x7 aA z41).symm))))
  have h11p : ¬ ((((m : Nat) : Int) < (((X.getD j []).length : Nat) : Int))) := pB h11
  have hme : m = (X.getD j []).length := by omega
  refine q5 2<|qG<|qW (
   .p (qJ (((j : Nat) : Int) + 1) (wrap_i64 oO oO) .i64) <| .e 1 3) ?_
  exact al_wFh (ih1 (j + 1) (show ((j + 1) ≤ u + 1) ∧ ((List.range (j + 1)).all (Sp.fro X u k) = true) from ⟨by omega, by (exact Sp.xQ hA (by first | exact Sp.c7 hji (by rw [hme] at hB; exact hB) | exact Sp.fW hji (by rw [hme] at hB; exact hB)))⟩) (show u + 1 - (j + 1) < u + 1 - j from by omega)) ⟨(jJ _ _ _), kK, kK, trivial⟩ (qS _ _)
 have h2p : ¬ ((((j : Nat) : Int) < ((u + 1 : Nat) : Int))) := pB h2
 have hje : j = u + 1 := by omega
 exact q5 0<|qG<|aw_e 63 1 3<|qF<|qB [.bool true] (show (.bool true : Value) = (.bool (Sp.vR X u k)) from (congrArg Value.bool (show true = (Sp.vR X u k) from by (first | exact (Sp.fQ aA).symm | exact (Sp.gW hjl (Sp.c7 hji (Sp.jW hm.1 hml z30))).symm | exact (Sp.gW hjl (Sp.fW hji (Sp.jW hm.1 hml z31))).symm | exact (Sp.x7 aA z41).symm))))
open Go Go.Proofs
theorem notok_ok (x y : Int) :
    AC Try.prog 63 0 ([.agg #[.int .i64 x, .int .i64 y]]) [] (.bool (Sp.nok (x, y))) [] := by
 refine qK Try.func63 (fun w0 W pin => ?_)
 refine aw_e 3 2 1<|aw_p 7 (
  .a 1 2 <| .p (qC (pok_ok x y)) <| .e 2 2) ?_
 exact qF<|qB [.bool (!((x == (Sp.lim 1048576 x)) && ((y == (Sp.lim 1048576 y)) && true)))] (show (.bool (!((x == (Sp.lim 1048576 x)) && ((y == (Sp.lim 1048576 y)) && true))) : Value) = (.bool (Sp.nok (x, y))) from (congrArg Value.bool (show (!((x == (Sp.lim 1048576 x)) && ((y == (Sp.lim 1048576 y)) && true))) = (Sp.nok (x, y)) from by rfl)))
theorem qEB (ps : List (Int × Int)) (hz : ps.length ≤ 9223372036854775807) :
    AC Try.prog 58 1 ([.slice (some ⟨0, 0, none⟩) ps.length 0, .func (.func 63) #[] #[]]) [(0, ⟨(ps.flatMap ptc), 29, false, 2⟩)] (.int .i64 (Sp.ixF Sp.nok ps 0)) [] := by
 refine qK Try.func58 (fun w0 W pin => ?_)
 refine aw_e 3 1 1<|qD 6 7<|aw_e 13 3 1<|qM 0 27<|q6 55<|al_w _ _ (jS (fun i : Nat => (fun (i : Nat) => mkSt 1 [(0, .slice (some ⟨0, 0, none⟩) ps.length 0), (1, .func (.func 63) #[] #[]), (7, .int .i64 ((ps.length : Nat) : Int)), (8, .int .i64 ((i : Nat) : Int))] [(0, ⟨(ps.flatMap ptc), 29, false, 2⟩)]) i) (fun i : Nat => (fun (i : Nat) => (i ≤ ps.length) ∧ (Sp.ixF Sp.nok ps i = Sp.ixF Sp.nok ps 0)) i) (fun i : Nat => (fun (i : Nat) => ps.length - i) i) (fun i hi1 ih1 => ?_) 0 (show (0 ≤ ps.length) ∧ (Sp.ixF Sp.nok ps 0 = Sp.ixF Sp.nok ps 0) from ⟨by omega, by rfl⟩)) (hc := z15)
 obtain ⟨i, hv1⟩ : ∃ z, z = i := ⟨i, rfl⟩; subst hv1
 have hi1' : (i ≤ ps.length) ∧ (Sp.ixF Sp.nok ps i = Sp.ixF Sp.nok ps 0) := hi1
 obtain ⟨hi, hh⟩ := hi1'
 show AL _ _ _ (mkSt _ _ _) _
 refine qE<|aw_e 111 1 1<|qD 222 223<|qY 444 445 (decide (((i : Nat) : Int) < ((ps.length : Nat) : Int))) (fun h1 => ?_) (fun h1 => ?_)
 ·have h1p : ((((i : Nat) : Int) < ((ps.length : Nat) : Int))) := pB h1
  have hil : i < ps.length := by omega
  refine qH<|qD 446 447<|qM 1 893<|aw_e 1787 2 1<|aw_p 3575 (
   .a 3 1 <| .p (iX 24 12 13 0 0 ps.length 2 ((i : Nat) : Int) oO oO) <|
   .p (lD 29 14 0 (0 + (((i : Nat) : Int)).toNat * 2) ⟨(ps.flatMap ptc), 29, false, 2⟩ (.agg #[.int .i64 ((ps.getD i (0, 0)).1), .int .i64 ((ps.getD i (0, 0)).2)]) (qL (j := i) kK kK oO oO)) <|
   .p (qC (notok_ok ((ps.getD i (0, 0)).1) ((ps.getD i (0, 0)).2))) <| .nil _ _) ?_
  refine qY 7150 7151 (Sp.nok ((ps.getD i (0, 0)).1, (ps.getD i (0, 0)).2)) (fun h2 => ?_) (fun h2 => ?_)
  ·exact aw_e 14301 2 1<|qF<|qB [.int .i64 ((i : Nat) : Int)] (show (.int .i64 ((i : Nat) : Int) : Value) = (.int .i64 (Sp.ixF Sp.nok ps 0)) from (congrArg (Value.int .i64) (show ((i : Nat) : Int) = (Sp.ixF Sp.nok ps 0) from by (first | exact (by rw [← hh, Sp.cZ hil aA]) | exact (by rw [← hh, Sp.nK hge])))))
  refine qH<|qW (
   .p (qJ (((i : Nat) : Int) + 1) (wrap_i64 oO oO) .i64) <| .e 1 1) ?_
  exact al_w _ _ (ih1 (i + 1) (show ((i + 1) ≤ ps.length) ∧ (Sp.ixF Sp.nok ps (i + 1) = Sp.ixF Sp.nok ps 0) from ⟨by omega, by (rw [← hh]; exact Sp.rQ hil aA)⟩) (show ps.length - (i + 1) < ps.length - i from by omega)) (hc := z15)
 have h1p : ¬ ((((i : Nat) : Int) < ((ps.length : Nat) : Int))) := pB h1
 have hge : ¬ i < ps.length := by omega
 exact q5 0<|qG<|aw_e 15 1 1<|qF<|qB [.int .i64 (-1)] (show (.int .i64 (-1) : Value) = (.int .i64 (Sp.ixF Sp.nok ps 0)) from (congrArg (Value.int .i64) (show (-1) = (Sp.ixF Sp.nok ps 0) from by (first | exact (by rw [← hh, Sp.cZ hil aA]) | exact (by rw [← hh, Sp.nK hge])))))
theorem s9 (ps : List (Int × Int)) (N : Nat) (hN : ps.length = N) (hz : N ≤ 9223372036854775807) : AC Try.prog 58 1 [.slice (some ⟨0, 0, none⟩) N 0, .func (.func 63) #[] #[]] [(0, ⟨(ps.flatMap ptc), 29, false, 2⟩)] (.int .i64 (Sp.ixF Sp.nok ps 0)) [] := by
  subst hN
  exact qEB ps hz
open Go Go.Proofs
theorem qF3 (ps : List (Int × Int)) (hz : ps.length ≤ 9223372036854775807) :
    AC Try.prog 19 1 ([.slice (some ⟨0, 0, none⟩) ps.length 0, .func (.func 63) #[] #[]]) [(0, ⟨(ps.flatMap ptc), 29, false, 2⟩)] (.bool (ps.any Sp.nok)) [] := by
 refine qK Try.func19 (fun w0 W pin => ?_)
 refine aw_e 3 1 1<|aw_p 7 (
  .a 2 1 <|
  .p (cB #[.tmp 5, .tmp 6] #[24, 34] [.slice (some ⟨0, 0, none⟩) ps.length 0, .func (.func 63) #[] #[]] 0 [(0, ⟨(ps.flatMap ptc), 29, false, 2⟩)] [] (.int .i64 (Sp.ixF Sp.nok ps 0)) [0] (s9 ps ps.length (rfl) (by first | omega | decide)) (.cons (.slice _ _ _ _ _ dD) (.cons (.flatB kK) .nil)) ⟨rfl, ⟨rfl, rfl, rfl, (.flats (qA _))⟩, trivial⟩ trivial (.flatB kK)) <|
  .p (qN (ps.any Sp.nok) (Sp.ixF_any _ _)) <| .e 1 1) ?_
 exact qF<|qB [.bool (ps.any Sp.nok)] kK
open Go Go.Proofs
theorem dQ (X : List Row) (hz : ∀ i, (X.getD i []).length ≤ 4611686018427387904) (hn : X.length ≤ 4611686018427387904) :
    AC Try.prog 24 (1 + X.length) [.slice (some ⟨0, 0, none⟩) X.length 0] (famP 24 29 X) (.int .i64 (Sp.lnsE X)) [] := by
 refine acF Try.func24 ⟨.slice _ _ _ _ rfl, trivial⟩ rfl (fun w0 W pin => ?_)
 refine aw_e 3 1 1<|qD 6 7<|aw_e 13 3 1<|qY 26 27 (decide (((X.length : Nat) : Int) > 20)) (fun h1 => ?_) (fun h1 => ?_)
 ·have h1p : ((((X.length : Nat) : Int) > 20)) := pB h1
  exact aw_e 53 1 1<|qF<|qB [.int .i64 2] (show (.int .i64 2 : Value) = (.int .i64 (Sp.lnsE X)) from (congrArg (Value.int .i64) (show 2 = (Sp.lnsE X) from by (first | exact (Sp.qE3 oO).symm | exact (Sp.xR oO ho hil (Sp.pV oO) dD).symm | exact (Sp.xR oO ho hil (Sp.pU oO) dD).symm | exact (Sp.xR oO ho hil (Sp.pW oO oO aA) dD).symm | exact (Sp.p8 oO ho hil hk.1 hkl (Sp.nbT aA)).symm | exact (Sp.sX oO ho z42).symm))))
 have h1p : ¬ ((((X.length : Nat) : Int) > 20)) := pB h1
 refine qH<|qD 14 15<|aw_e 29 3 1<|qM 0 59<|q6 119<|al_wFh (jS (fun i : Nat => (fun (i : Nat) => mkF 1 [(0, .slice (some ⟨0, 0, none⟩) X.length 0), (11, .slice (some ⟨0, 0, none⟩) X.length 0), (12, .int .i64 ((X.length : Nat) : Int)), (13, .int .i64 ((i : Nat) : Int))] [(0, ⟨(hds (· + 200) X), 24, false, 1⟩)] (famR 29 X)) i) (fun i : Nat => (fun (i : Nat) => (i ≤ X.length) ∧ (Sp.okTo X i)) i) (fun i : Nat => (fun (i : Nat) => X.length - i) i) (fun i hi1 ih1 => ?_) 0 (show (0 ≤ X.length) ∧ (Sp.okTo X 0) from ⟨by omega, by (exact Sp.okTo_0 X)⟩)) ⟨(jJ _ _ _), trivial⟩ (qS _ _)
 obtain ⟨i, hv1⟩ : ∃ z, z = i := ⟨i, rfl⟩; subst hv1
 have hi1' : (i ≤ X.length) ∧ (Sp.okTo X i) := hi1
 obtain ⟨hi, ho⟩ := hi1'
 show AL _ _ _ (mkF _ _ _ _) _
 have zi := hz i
 refine qE<|aw_e 239 1 1<|qD 478 479<|qY 956 957 (decide (((i : Nat) : Int) < ((X.length : Nat) : Int))) (fun h2 => ?_) (fun h2 => ?_)
 ·have h2p : ((((i : Nat) : Int) < ((X.length : Nat) : Int))) := pB h2
  have hil : i < X.length := by omega
  refine qH<|qD 958 959<|qM 1 1917<|aw_p 3835 (
   .p (iX 36 11 13 0 0 X.length 1 ((i : Nat) : Int) oO oO) <|
   .p (lD 24 15 0 (0 + (((i : Nat) : Int)).toNat * 1) ⟨(hds (· + 200) X), 24, false, 1⟩ (.slice (some ⟨(i + 200), 0, none⟩) ((X.getD i []).length) 0) (by rw [show (0 + (((i : Nat) : Int)).toNat * 1) = i from oO]; exact cY kK kK oO)) <|
   .e 1 1) ?_
  refine qM 2 7671<|aw_e 15343 4 1<|qY 30686 30687 (decide ((((X.getD i []).length : Nat) : Int) > 200)) (fun h3 => ?_) (fun h3 => ?_)
  ·have h3p : (((((X.getD i []).length : Nat) : Int) > 200)) := pB h3
   exact aw_e 61373 1 1<|qF<|qB [.int .i64 2] (show (.int .i64 2 : Value) = (.int .i64 (Sp.lnsE X)) from (congrArg (Value.int .i64) (show 2 = (Sp.lnsE X) from by (first | exact (Sp.qE3 oO).symm | exact (Sp.xR oO ho hil (Sp.pV oO) dD).symm | exact (Sp.xR oO ho hil (Sp.pU oO) dD).symm | exact (Sp.xR oO ho hil (Sp.pW oO oO aA) dD).symm | exact (Sp.p8 oO ho hil hk.1 hkl (Sp.nbT aA)).symm | exact (Sp.sX oO ho z42).symm))))
  have h3p : ¬ (((((X.getD i []).length : Nat) : Int) > 200)) := pB h3
  refine aw_e 61375 4 1<|qY 122750 122751 (decide ((((X.getD i []).length : Nat) : Int) < 2)) (fun h4 => ?_) (fun h4 => ?_)
  ·have h4p : (((((X.getD i []).length : Nat) : Int) < 2)) := pB h4
   exact aw_e 245501 1 1<|qF<|qB [.int .i64 3] (show (.int .i64 3 : Value) = (.int .i64 (Sp.lnsE X)) from (congrArg (Value.int .i64) (show 3 = (Sp.lnsE X) from by (first | exact (Sp.qE3 oO).symm | exact (Sp.xR oO ho hil (Sp.pV oO) dD).symm | exact (Sp.xR oO ho hil (Sp.pU oO) dD).symm | exact (Sp.xR oO ho hil (Sp.pW oO oO aA) dD).symm | exact (Sp.p8 oO ho hil hk.1 hkl (Sp.nbT aA)).symm | exact (Sp.sX oO ho z42).symm))))
  have h4p : ¬ (((((X.getD i []).length : Nat) : Int) < 2)) := pB h4
  refine aw_p 245503 (
   .a 1 1 <|
   .p (yJ [(i + 200)] #[.tmp 26, .func 63] #[24, 34] [.slice (some ⟨(i + 200), 0, none⟩) ((X.getD i []).length) 0, .func (.func 63) #[] #[]] [(29, false)] (qF3 (X.getD i []) oO) (.cons (.slice _ _ _ _ _ dD) (.cons (.flatB kK) .nil)) ⟨⟨rfl, qA _⟩, trivial⟩) <|
   .e 1 1) ?_
  refine qY 491006 491007 ((X.getD i []).any Sp.nok) (fun h5 => ?_) (fun h5 => ?_)
  ·exact aw_e 982013 1 1<|qF<|qB [.int .i64 1] (show (.int .i64 1 : Value) = (.int .i64 (Sp.lnsE X)) from (congrArg (Value.int .i64) (show 1 = (Sp.lnsE X) from by (first | exact (Sp.qE3 oO).symm | exact (Sp.xR oO ho hil (Sp.pV oO) dD).symm | exact (Sp.xR oO ho hil (Sp.pU oO) dD).symm | exact (Sp.xR oO ho hil (Sp.pW oO oO aA) dD).symm | exact (Sp.p8 oO ho hil hk.1 hkl (Sp.nbT aA)).symm | exact (Sp.sX oO ho z42).symm))))
  refine qH<|qW (
   .p (qJ (((i : Nat) : Int) + 1) (wrap_i64 oO oO) .i64) <| .e 1 1) ?_
  exact al_wFh (ih1 (i + 1) (show ((i + 1) ≤ X.length) ∧ (Sp.okTo X (i + 1)) from ⟨by omega, by (exact Sp.okTo_next ho oO oO aA)⟩) (show X.length - (i + 1) < X.length - i from by omega)) ⟨(jJ _ _ _), trivial⟩ (qS _ _)
 have h2p : ¬ ((((i : Nat) : Int) < ((X.length : Nat) : Int))) := pB h2
 have hie : i = X.length := by omega
 refine q5 0<|qG ?_
 rw [hie] at ho; have hF := Sp.dG ho; clear hie
 refine qD 30 31<|aw_e 61 3 1<|qM 3 123<|q6 247<|al_wFh (jS (fun i : Nat => (fun (u : Nat) => mkF 1 [(0, .slice (some ⟨0, 0, none⟩) X.length 0), (29, .slice (some ⟨0, 0, none⟩) X.length 0), (30, .int .i64 ((X.length : Nat) : Int)), (31, .int .i64 ((u : Nat) : Int))] [(0, ⟨(hds (· + 200) X), 24, false, 1⟩)] (famR 29 X)) i) (fun i : Nat => (fun (u : Nat) => (u ≤ X.length) ∧ (Sp.frTo X u = true)) i) (fun i : Nat => (fun (u : Nat) => X.length - u) i) (fun i hi2 ih2 => ?_) 0 (show (0 ≤ X.length) ∧ (Sp.frTo X 0 = true) from ⟨by omega, by rfl⟩)) ⟨(jJ _ _ _), trivial⟩ (qS _ _)
 obtain ⟨u, hv2⟩ : ∃ z, z = i := ⟨i, rfl⟩; subst hv2
 have hi2' : (u ≤ X.length) ∧ (Sp.frTo X u = true) := hi2
 obtain ⟨hi, hA⟩ := hi2'
 show AL _ _ _ (mkF _ _ _ _) _
 have zi := hz u
 refine qE<|aw_e 495 1 1<|qD 990 991<|qY 1980 1981 (decide (((u : Nat) : Int) < ((X.length : Nat) : Int))) (fun h6 => ?_) (fun h6 => ?_)
 ·have h6p : ((((u : Nat) : Int) < ((X.length : Nat) : Int))) := pB h6
  have hil : u < X.length := by omega
  refine qH<|qD 1982 1983<|qM 4 3965<|aw_p 7931 (
   .a 1 1 <| .p (iX 36 29 31 0 0 X.length 1 ((u : Nat) : Int) oO oO) <|
   .p (lD 24 34 0 (0 + (((u : Nat) : Int)).toNat * 1) ⟨(hds (· + 200) X), 24, false, 1⟩ (.slice (some ⟨(u + 200), 0, none⟩) ((X.getD u []).length) 0) z24) <|
   .e 2 1) ?_
  refine aw_e 15863 1 1<|qM 5 31727<|q6 63455<|al_wFh (jS (fun i : Nat => (fun (k : Nat) => mkF 1 [(0, .slice (some ⟨0, 0, none⟩) X.length 0), (5, .int .i64 ((u : Nat) : Int)), (6, .slice (some ⟨(u + 200), 0, none⟩) ((X.getD u []).length) 0), (7, .int .i64 ((k : Nat) : Int)), (29, .slice (some ⟨0, 0, none⟩) X.length 0), (30, .int .i64 ((X.length : Nat) : Int)), (31, .int .i64 ((u : Nat) : Int))] [(0, ⟨(hds (· + 200) X), 24, false, 1⟩)] (famR 29 X)) i) (fun i : Nat => (fun (k : Nat) => (1 ≤ k ∧ k ≤ (X.getD u []).length) ∧ (Sp.nP X u k = true)) i) (fun i : Nat => (fun (k : Nat) => (X.getD u []).length - k) i) (fun i hi3 ih3 => ?_) 1 (show (1 ≤ 1 ∧ 1 ≤ (X.getD u []).length) ∧ (Sp.nP X u 1 = true) from ⟨by (have := (Sp.y7 (ho u hil)).1; omega), by rfl⟩)) ⟨(jJ _ _ _), trivial⟩ (qS _ _)
  obtain ⟨k, hv3⟩ : ∃ z, z = i := ⟨i, rfl⟩; subst hv3
  have hi3' : (1 ≤ k ∧ k ≤ (X.getD u []).length) ∧ (Sp.nP X u k = true) := hi3
  obtain ⟨hk, hB⟩ := hi3'
  show AL _ _ _ (mkF _ _ _ _) _
  refine qE<|qD 126910 126911<|aw_e 253821 4 1<|qY 507642 507643 (decide (((k : Nat) : Int) < (((X.getD u []).length : Nat) : Int))) (fun h7 => ?_) (fun h7 => ?_)
  ·have h7p : ((((k : Nat) : Int) < (((X.getD u []).length : Nat) : Int))) := pB h7
   have hkl : k < (X.getD u []).length := by omega
   refine qH<|qD 253822 253823<|qM 6 507645<|aw_p 1015291 (
    .a 3 1 <|
    .p (wF 0 (· + 200) #[.tmp 42, .tmp 43, .tmp 44] #[36, 3, 3] [.slice (some ⟨0, 0, none⟩) X.length 0, .int .i64 ((u : Nat) : Int), .int .i64 ((k : Nat) : Int)] (free_ok X u k hF (fun i hi => ⟨(Sp.y7 (ho i hi)).1, (Sp.y7 (ho i hi)).2.1⟩) oO hil ⟨hk.1, hkl⟩) ⟨24, false, by kernel_rfl⟩ (fun j _ => ⟨29, false, by kernel_rfl⟩) (show RenL (famS 0 (· + 200)) (· < 1 + X.length) [.slice (some ⟨0, 0, none⟩) X.length 0, .int .i64 ((u : Nat) : Int), .int .i64 ((k : Nat) : Int)] [.slice (some ⟨0, 0, none⟩) X.length 0, .int .i64 ((u : Nat) : Int), .int .i64 ((k : Nat) : Int)] from (.cons (.slice 0 _ _ _ _ z43) (.cons (.flatB kK) (.cons (.flatB kK) .nil))))) <|
    .e 1 1) ?_
   refine qY 2030582 2030583 (!(Sp.vR X u k)) (fun h8 => ?_) (fun h8 => ?_)
   ·exact aw_e 4061165 1 1<|qF<|qB [.int .i64 10] (show (.int .i64 10 : Value) = (.int .i64 (Sp.lnsE X)) from (congrArg (Value.int .i64) (show 10 = (Sp.lnsE X) from by (first | exact (Sp.qE3 oO).symm | exact (Sp.xR oO ho hil (Sp.pV oO) dD).symm | exact (Sp.xR oO ho hil (Sp.pU oO) dD).symm | exact (Sp.xR oO ho hil (Sp.pW oO oO aA) dD).symm | exact (Sp.p8 oO ho hil hk.1 hkl (Sp.nbT aA)).symm | exact (Sp.sX oO ho z42).symm))))
   refine qH<|qW (
    .a 1 1 <| .p (qJ (((k : Nat) : Int) + 1) (wrap_i64 oO oO) .i64) <| .e 1 1) ?_
   exact al_wFh (ih3 (k + 1) (show (1 ≤ (k + 1) ∧ (k + 1) ≤ (X.getD u []).length) ∧ (Sp.nP X u (k + 1) = true) from ⟨by omega, by (exact Sp.qEG hB (Sp.nbF aA))⟩) (show (X.getD u []).length - (k + 1) < (X.getD u []).length - k from by omega)) ⟨(jJ _ _ _), trivial⟩ (qS _ _)
  have h7p : ¬ ((((k : Nat) : Int) < (((X.getD u []).length : Nat) : Int))) := pB h7
  have hke : k = (X.getD u []).length := by omega
  refine q5 5<|qG<|qW (
   .p (qJ (((u : Nat) : Int) + 1) (wrap_i64 oO oO) .i64) <| .e 1 1) ?_
  exact al_wFh (ih2 (u + 1) (show ((u + 1) ≤ X.length) ∧ (Sp.frTo X (u + 1) = true) from ⟨by omega, by (exact Sp.frTo_next hA (by rw [← hke]; exact hB))⟩) (show X.length - (u + 1) < X.length - u from by omega)) ⟨(jJ _ _ _), trivial⟩ (qS _ _)
 have h6p : ¬ ((((u : Nat) : Int) < ((X.length : Nat) : Int))) := pB h6
 have hie : u = X.length := by omega
 exact q5 3<|qG<|aw_e 63 1 1<|qF<|qB [.int .i64 0] (show (.int .i64 0 : Value) = (.int .i64 (Sp.lnsE X)) from (congrArg (Value.int .i64) (show 0 = (Sp.lnsE X) from by (first | exact (Sp.qE3 oO).symm | exact (Sp.xR oO ho hil (Sp.pV oO) dD).symm | exact (Sp.xR oO ho hil (Sp.pU oO) dD).symm | exact (Sp.xR oO ho hil (Sp.pW oO oO aA) dD).symm | exact (Sp.p8 oO ho hil hk.1 hkl (Sp.nbT aA)).symm | exact (Sp.sX oO ho z42).symm))))
open Go Go.Proofs
theorem rS (ax ay px py bx b_y qx qy : Int) (axl : -1048576 ≤ ax) (axu : ax ≤ 1048576) (ayl : -1048576 ≤ ay) (ayu : ay ≤ 1048576) (pxl : -1048576 ≤ px) (pxu : px ≤ 1048576) (pyl : -1048576 ≤ py) (pyu : py ≤ 1048576) (bxl : -1048576 ≤ bx) (bxu : bx ≤ 1048576) (b_yl : -1048576 ≤ b_y) (b_yu : b_y ≤ 1048576) (qxl : -1048576 ≤ qx) (qxu : qx ≤ 1048576) (qyl : -1048576 ≤ qy) (qyu : qy ≤ 1048576) :
    AC Try.prog 106 0 ([.agg #[.int .i64 ax, .int .i64 ay], .agg #[.int .i64 px, .int .i64 py], .agg #[.int .i64 bx, .int .i64 b_y], .agg #[.int .i64 qx, .int .i64 qy]]) [] (.bool (Sp.triB (ax, ay) (px, py) (bx, b_y) (qx, qy))) [] := by
 refine qK Try.func106 (fun w0 W pin => ?_)
 refine aw_e 3 5 1<|aw_d 7 (
  .a 3 5 <| .p (qC (vY ax ay px py qx qy oO oO oO oO oO oO oO oO oO oO oO oO)) <| .a 3 5 <|
  .p (qC (vY px py bx b_y qx qy oO oO oO oO oO oO oO oO oO oO oO oO)) <| .a 3 5 <|
  .p (qC (vY bx b_y ax ay qx qy oO oO oO oO oO oO oO oO oO oO oO oO)) <| .e 3 5) ?_
 refine qD 14 15<|aw_p 29 (
  .a 3 5 <| .p (qC (vY ax ay px py bx b_y oO oO oO oO oO oO oO oO oO oO oO oO)) <| .e 1 5) ?_
 refine qY 58 59 ((Sp.cmp (Sp.crs ax ay px py bx b_y) 0) == 0) (fun h1 => ?_) (fun h1 => ?_)
 ·rcases Bool.eq_false_or_eq_true (Sp.onb ax ay px py qx qy) with h2 | h2
  ·refine aw_p 117 (
    .a 3 5 <| .p (xJ _ (fB ax ay px py qx qy oO oO oO oO oO oO oO oO oO oO oO oO) true (h2)) <| .e 7 5) ?_
   exact qF<|qB [.bool true] (show (.bool true : Value) = (.bool (Sp.triB (ax, ay) (px, py) (bx, b_y) (qx, qy))) from (congrArg Value.bool (show true = (Sp.triB (ax, ay) (px, py) (bx, b_y) (qx, qy)) from by (first | (rw [Sp.vJ aA]; simp only [Sp.onP, *, Bool.true_and, Bool.and_false, Bool.false_and, Bool.or_true, Bool.true_or, Bool.or_false, Bool.false_or, Bool.not_true, Bool.not_false]; done) | (rw [Sp.jD aA]; symm; simp only [Bool.or_eq_true, Bool.and_eq_true, decide_eq_true_eq]; simp only [Sp.tr]; omega) | (rw [Sp.jD aA]; symm; rw [← Bool.not_eq_true]; simp only [Bool.or_eq_true, Bool.and_eq_true, decide_eq_true_eq]; simp only [Sp.tr]; omega) | (rw [Sp.jD aA, Bool.eq_iff_iff]; simp only [Bool.or_eq_true, Bool.and_eq_true, decide_eq_true_eq]; simp only [Sp.tr]; omega)))))
  refine aw_p 117 (
   .a 3 5 <| .p (xJ _ (fB ax ay px py qx qy oO oO oO oO oO oO oO oO oO oO oO oO) false (h2)) <| .a 4 5 <|
   .p (qC (fB px py bx b_y qx qy oO oO oO oO oO oO oO oO oO oO oO oO)) <| .e 2 5) ?_
  exact qF<|qB [.bool (Sp.onb px py bx b_y qx qy)] (show (.bool (Sp.onb px py bx b_y qx qy) : Value) = (.bool (Sp.triB (ax, ay) (px, py) (bx, b_y) (qx, qy))) from (congrArg Value.bool (show (Sp.onb px py bx b_y qx qy) = (Sp.triB (ax, ay) (px, py) (bx, b_y) (qx, qy)) from by (first | (rw [Sp.vJ aA]; simp only [Sp.onP, *, Bool.true_and, Bool.and_false, Bool.false_and, Bool.or_true, Bool.true_or, Bool.or_false, Bool.false_or, Bool.not_true, Bool.not_false]; done) | (rw [Sp.jD aA]; symm; simp only [Bool.or_eq_true, Bool.and_eq_true, decide_eq_true_eq]; simp only [Sp.tr]; omega) | (rw [Sp.jD aA]; symm; rw [← Bool.not_eq_true]; simp only [Bool.or_eq_true, Bool.and_eq_true, decide_eq_true_eq]; simp only [Sp.tr]; omega) | (rw [Sp.jD aA, Bool.eq_iff_iff]; simp only [Bool.or_eq_true, Bool.and_eq_true, decide_eq_true_eq]; simp only [Sp.tr]; omega)))))
 refine qH ?_
 rcases Bool.eq_false_or_eq_true (decide ((Sp.cmp (Sp.crs ax ay px py qx qy) 0) ≥ 0)) with h3 | h3
 ·have h3p : (((Sp.cmp (Sp.crs ax ay px py qx qy) 0) ≥ 0)) := pB h3
  rcases Bool.eq_false_or_eq_true (decide ((Sp.cmp (Sp.crs px py bx b_y qx qy) 0) ≥ 0)) with h4 | h4
  ·have h4p : (((Sp.cmp (Sp.crs px py bx b_y qx qy) 0) ≥ 0)) := pB h4
   rcases Bool.eq_false_or_eq_true (decide ((Sp.cmp (Sp.crs bx b_y ax ay qx qy) 0) ≥ 0)) with h5 | h5
   ·have h5p : (((Sp.cmp (Sp.crs bx b_y ax ay qx qy) 0) ≥ 0)) := pB h5
    refine aw_p 31 (
     .a 1 5 <| .p (qN true (h3)) <| .a 2 5 <| .p (qN true (h4)) <| .a 3 5 <| .p (qN true (h5)) <| .e 14 5) ?_
    exact qF<|qB [.bool true] (show (.bool true : Value) = (.bool (Sp.triB (ax, ay) (px, py) (bx, b_y) (qx, qy))) from (congrArg Value.bool (show true = (Sp.triB (ax, ay) (px, py) (bx, b_y) (qx, qy)) from by (first | (rw [Sp.vJ aA]; simp only [Sp.onP, *, Bool.true_and, Bool.and_false, Bool.false_and, Bool.or_true, Bool.true_or, Bool.or_false, Bool.false_or, Bool.not_true, Bool.not_false]; done) | (rw [Sp.jD aA]; symm; simp only [Bool.or_eq_true, Bool.and_eq_true, decide_eq_true_eq]; simp only [Sp.tr]; omega) | (rw [Sp.jD aA]; symm; rw [← Bool.not_eq_true]; simp only [Bool.or_eq_true, Bool.and_eq_true, decide_eq_true_eq]; simp only [Sp.tr]; omega) | (rw [Sp.jD aA, Bool.eq_iff_iff]; simp only [Bool.or_eq_true, Bool.and_eq_true, decide_eq_true_eq]; simp only [Sp.tr]; omega)))))
   have h5p : ¬ (((Sp.cmp (Sp.crs bx b_y ax ay qx qy) 0) ≥ 0)) := pB h5
   rcases Bool.eq_false_or_eq_true (decide ((Sp.cmp (Sp.crs ax ay px py qx qy) 0) ≤ 0)) with h6 | h6
   ·have h6p : (((Sp.cmp (Sp.crs ax ay px py qx qy) 0) ≤ 0)) := pB h6
    rcases Bool.eq_false_or_eq_true (decide ((Sp.cmp (Sp.crs px py bx b_y qx qy) 0) ≤ 0)) with h7 | h7
    ·have h7p : (((Sp.cmp (Sp.crs px py bx b_y qx qy) 0) ≤ 0)) := pB h7
     refine aw_p 31 (
      .a 1 5 <| .p (qN true (h3)) <| .a 2 5 <| .p (qN true (h4)) <| .a 3 5 <| .p (qN false (h5)) <| .a 3 5 <| .p (qN true (h6)) <| .a 2 5 <| .p (qN true (h7)) <| .e 7 5) ?_
     exact qF<|qB [.bool (decide ((Sp.cmp (Sp.crs bx b_y ax ay qx qy) 0) ≤ 0))] (show (.bool (decide ((Sp.cmp (Sp.crs bx b_y ax ay qx qy) 0) ≤ 0)) : Value) = (.bool (Sp.triB (ax, ay) (px, py) (bx, b_y) (qx, qy))) from (congrArg Value.bool (show (decide ((Sp.cmp (Sp.crs bx b_y ax ay qx qy) 0) ≤ 0)) = (Sp.triB (ax, ay) (px, py) (bx, b_y) (qx, qy)) from by (first | (rw [Sp.vJ aA]; simp only [Sp.onP, *, Bool.true_and, Bool.and_false, Bool.false_and, Bool.or_true, Bool.true_or, Bool.or_false, Bool.false_or, Bool.not_true, Bool.not_false]; done) | (rw [Sp.jD aA]; symm; simp only [Bool.or_eq_true, Bool.and_eq_true, decide_eq_true_eq]; simp only [Sp.tr]; omega) | (rw [Sp.jD aA]; symm; rw [← Bool.not_eq_true]; simp only [Bool.or_eq_true, Bool.and_eq_true, decide_eq_true_eq]; simp only [Sp.tr]; omega) | (rw [Sp.jD aA, Bool.eq_iff_iff]; simp only [Bool.or_eq_true, Bool.and_eq_true, decide_eq_true_eq]; simp only [Sp.tr]; omega)))))
    have h7p : ¬ (((Sp.cmp (Sp.crs px py bx b_y qx qy) 0) ≤ 0)) := pB h7
    refine aw_p 31 (
     .a 1 5 <| .p (qN true (h3)) <| .a 2 5 <| .p (qN true (h4)) <| .a 3 5 <| .p (qN false (h5)) <| .a 3 5 <| .p (qN true (h6)) <| .a 2 5 <| .p (qN false (h7)) <| .e 7 5) ?_
    exact qF<|qB [.bool false] (show (.bool false : Value) = (.bool (Sp.triB (ax, ay) (px, py) (bx, b_y) (qx, qy))) from (congrArg Value.bool (show false = (Sp.triB (ax, ay) (px, py) (bx, b_y) (qx, qy)) from by (first | (rw [Sp.vJ aA]; simp only [Sp.onP, *, Bool.true_and, Bool.and_false, Bool.false_and, Bool.or_true, Bool.true_or, Bool.or_false, Bool.false_or, Bool.not_true, Bool.not_false]; done) | (rw [Sp.jD aA]; symm; simp only [Bool.or_eq_true, Bool.and_eq_true, decide_eq_true_eq]; simp only [Sp.tr]; omega) | (rw [Sp.jD aA]; symm; rw [← Bool.not_eq_true]; simp only [Bool.or_eq_true, Bool.and_eq_true, decide_eq_true_eq]; simp only [Sp.tr]; omega) | (rw [Sp.jD aA, Bool.eq_iff_iff]; simp only [Bool.or_eq_true, Bool.and_eq_true, decide_eq_true_eq]; simp only [Sp.tr]; omega)))))
   have h6p : ¬ (((Sp.cmp (Sp.crs ax ay px py qx qy) 0) ≤ 0)) := pB h6
   refine aw_p 31 (
    .a 1 5 <| .p (qN true (h3)) <| .a 2 5 <| .p (qN true (h4)) <| .a 3 5 <| .p (qN false (h5)) <| .a 3 5 <| .p (qN false (h6)) <| .e 10 5) ?_
   exact qF<|qB [.bool false] (show (.bool false : Value) = (.bool (Sp.triB (ax, ay) (px, py) (bx, b_y) (qx, qy))) from (congrArg Value.bool (show false = (Sp.triB (ax, ay) (px, py) (bx, b_y) (qx, qy)) from by (first | (rw [Sp.vJ aA]; simp only [Sp.onP, *, Bool.true_and, Bool.and_false, Bool.false_and, Bool.or_true, Bool.true_or, Bool.or_false, Bool.false_or, Bool.not_true, Bool.not_false]; done) | (rw [Sp.jD aA]; symm; simp only [Bool.or_eq_true, Bool.and_eq_true, decide_eq_true_eq]; simp only [Sp.tr]; omega) | (rw [Sp.jD aA]; symm; rw [← Bool.not_eq_true]; simp only [Bool.or_eq_true, Bool.and_eq_true, decide_eq_true_eq]; simp only [Sp.tr]; omega) | (rw [Sp.jD aA, Bool.eq_iff_iff]; simp only [Bool.or_eq_true, Bool.and_eq_true, decide_eq_true_eq]; simp only [Sp.tr]; omega)))))
  have h4p : ¬ (((Sp.cmp (Sp.crs px py bx b_y qx qy) 0) ≥ 0)) := pB h4
  rcases Bool.eq_false_or_eq_true (decide ((Sp.cmp (Sp.crs ax ay px py qx qy) 0) ≤ 0)) with h8 | h8
  ·have h8p : (((Sp.cmp (Sp.crs ax ay px py qx qy) 0) ≤ 0)) := pB h8
   rcases Bool.eq_false_or_eq_true (decide ((Sp.cmp (Sp.crs px py bx b_y qx qy) 0) ≤ 0)) with h9 | h9
   ·have h9p : (((Sp.cmp (Sp.crs px py bx b_y qx qy) 0) ≤ 0)) := pB h9
    refine aw_p 31 (
     .a 1 5 <| .p (qN true (h3)) <| .a 2 5 <| .p (qN false (h4)) <| .a 7 5 <| .p (qN true (h8)) <| .a 2 5 <| .p (qN true (h9)) <| .e 7 5) ?_
    exact qF<|qB [.bool (decide ((Sp.cmp (Sp.crs bx b_y ax ay qx qy) 0) ≤ 0))] (show (.bool (decide ((Sp.cmp (Sp.crs bx b_y ax ay qx qy) 0) ≤ 0)) : Value) = (.bool (Sp.triB (ax, ay) (px, py) (bx, b_y) (qx, qy))) from (congrArg Value.bool (show (decide ((Sp.cmp (Sp.crs bx b_y ax ay qx qy) 0) ≤ 0)) = (Sp.triB (ax, ay) (px, py) (bx, b_y) (qx, qy)) from by (first | (rw [Sp.vJ aA]; simp only [Sp.onP, *, Bool.true_and, Bool.and_false, Bool.false_and, Bool.or_true, Bool.true_or, Bool.or_false, Bool.false_or, Bool.not_true, Bool.not_false]; done) | (rw [Sp.jD aA]; symm; simp only [Bool.or_eq_true, Bool.and_eq_true, decide_eq_true_eq]; simp only [Sp.tr]; omega) | (rw [Sp.jD aA]; symm; rw [← Bool.not_eq_true]; simp only [Bool.or_eq_true, Bool.and_eq_true, decide_eq_true_eq]; simp only [Sp.tr]; omega) | (rw [Sp.jD aA, Bool.eq_iff_iff]; simp only [Bool.or_eq_true, Bool.and_eq_true, decide_eq_true_eq]; simp only [Sp.tr]; omega)))))
   have h9p : ¬ (((Sp.cmp (Sp.crs px py bx b_y qx qy) 0) ≤ 0)) := pB h9
   refine aw_p 31 (
    .a 1 5 <| .p (qN true (h3)) <| .a 2 5 <| .p (qN false (h4)) <| .a 7 5 <| .p (qN true (h8)) <| .a 2 5 <| .p (qN false (h9)) <| .e 7 5) ?_
   exact qF<|qB [.bool false] (show (.bool false : Value) = (.bool (Sp.triB (ax, ay) (px, py) (bx, b_y) (qx, qy))) from (congrArg Value.bool (show false = (Sp.triB (ax, ay) (px, py) (bx, b_y) (qx, qy)) from by (first | (rw [Sp.vJ aA]; simp only [Sp.onP, *, Bool.true_and, Bool.and_false, Bool.false_and, Bool.or_true, Bool.true_or, Bool.or_false, Bool.false_or, Bool.not_true, Bool.not_false]; done) | (rw [Sp.jD aA]; symm; simp only [Bool.or_eq_true, Bool.and_eq_true, decide_eq_true_eq]; simp only [Sp.tr]; omega) | (rw [Sp.jD aA]; symm; rw [← Bool.not_eq_true]; simp only [Bool.or_eq_true, Bool.and_eq_true, decide_eq_true_eq]; simp only [Sp.tr]; omega) | (rw [Sp.jD aA, Bool.eq_iff_iff]; simp only [Bool.or_eq_true, Bool.and_eq_true, decide_eq_true_eq]; simp only [Sp.tr]; omega)))))
  have h8p : ¬ (((Sp.cmp (Sp.crs ax ay px py qx qy) 0) ≤ 0)) := pB h8
  refine aw_p 31 (
   .a 1 5 <| .p (qN true (h3)) <| .a 2 5 <| .p (qN false (h4)) <| .a 7 5 <| .p (qN false (h8)) <| .e 10 5) ?_
  exact qF<|qB [.bool false] (show (.bool false : Value) = (.bool (Sp.triB (ax, ay) (px, py) (bx, b_y) (qx, qy))) from (congrArg Value.bool (show false = (Sp.triB (ax, ay) (px, py) (bx, b_y) (qx, qy)) from by (first | (rw [Sp.vJ aA]; simp only [Sp.onP, *, Bool.true_and, Bool.and_false, Bool.false_and, Bool.or_true, Bool.true_or, Bool.or_false, Bool.false_or, Bool.not_true, Bool.not_false]; done) | (rw [Sp.jD aA]; symm; simp only [Bool.or_eq_true, Bool.and_eq_true, decide_eq_true_eq]; simp only [Sp.tr]; omega) | (rw [Sp.jD aA]; symm; rw [← Bool.not_eq_true]; simp only [Bool.or_eq_true, Bool.and_eq_true, decide_eq_true_eq]; simp only [Sp.tr]; omega) | (rw [Sp.jD aA, Bool.eq_iff_iff]; simp only [Bool.or_eq_true, Bool.and_eq_true, decide_eq_true_eq]; simp only [Sp.tr]; omega)))))
 have h3p : ¬ (((Sp.cmp (Sp.crs ax ay px py qx qy) 0) ≥ 0)) := pB h3
 rcases Bool.eq_false_or_eq_true (decide ((Sp.cmp (Sp.crs ax ay px py qx qy) 0) ≤ 0)) with h10 | h10
 ·have h10p : (((Sp.cmp (Sp.crs ax ay px py qx qy) 0) ≤ 0)) := pB h10
  rcases Bool.eq_false_or_eq_true (decide ((Sp.cmp (Sp.crs px py bx b_y qx qy) 0) ≤ 0)) with h11 | h11
  ·have h11p : (((Sp.cmp (Sp.crs px py bx b_y qx qy) 0) ≤ 0)) := pB h11
   refine aw_p 31 (
    .a 1 5 <| .p (qN false (h3)) <| .a 10 5 <| .p (qN true (h10)) <| .a 2 5 <| .p (qN true (h11)) <| .e 7 5) ?_
   exact qF<|qB [.bool (decide ((Sp.cmp (Sp.crs bx b_y ax ay qx qy) 0) ≤ 0))] (show (.bool (decide ((Sp.cmp (Sp.crs bx b_y ax ay qx qy) 0) ≤ 0)) : Value) = (.bool (Sp.triB (ax, ay) (px, py) (bx, b_y) (qx, qy))) from (congrArg Value.bool (show (decide ((Sp.cmp (Sp.crs bx b_y ax ay qx qy) 0) ≤ 0)) = (Sp.triB (ax, ay) (px, py) (bx, b_y) (qx, qy)) from by (first | (rw [Sp.vJ aA]; simp only [Sp.onP, *, Bool.true_and, Bool.and_false, Bool.false_and, Bool.or_true, Bool.true_or, Bool.or_false, Bool.false_or, Bool.not_true, Bool.not_false]; done) | (rw [Sp.jD aA]; symm; simp only [Bool.or_eq_true, Bool.and_eq_true, decide_eq_true_eq]; simp only [Sp.tr]; omega) | (rw [Sp.jD aA]; symm; rw [← Bool.not_eq_true]; simp only [Bool.or_eq_true, Bool.and_eq_true, decide_eq_true_eq]; simp only [Sp.tr]; omega) | (rw [Sp.jD aA, Bool.eq_iff_iff]; simp only [Bool.or_eq_true, Bool.and_eq_true, decide_eq_true_eq]; simp only [Sp.tr]; omega)))))
  have h11p : ¬ (((Sp.cmp (Sp.crs px py bx b_y qx qy) 0) ≤ 0)) := pB h11
  refine aw_p 31 (
   .a 1 5 <| .p (qN false (h3)) <| .a 10 5 <| .p (qN true (h10)) <| .a 2 5 <| .p (qN false (h11)) <| .e 7 5) ?_
  exact qF<|qB [.bool false] (show (.bool false : Value) = (.bool (Sp.triB (ax, ay) (px, py) (bx, b_y) (qx, qy))) from (congrArg Value.bool (show false = (Sp.triB (ax, ay) (px, py) (bx, b_y) (qx, qy)) from by (first | (rw [Sp.vJ aA]; simp only [Sp.onP, *, Bool.true_and, Bool.and_false, Bool.false_and, Bool.or_true, Bool.true_or, Bool.or_false, Bool.false_or, Bool.not_true, Bool.not_false]; done) | (rw [Sp.jD aA]; symm; simp only [Bool.or_eq_true, Bool.and_eq_true, decide_eq_true_eq]; simp only [Sp.tr]; omega) | (rw [Sp.jD aA]; symm; rw [← Bool.not_eq_true]; simp only [Bool.or_eq_true, Bool.and_eq_true, decide_eq_true_eq]; simp only [Sp.tr]; omega) | (rw [Sp.jD aA, Bool.eq_iff_iff]; simp only [Bool.or_eq_true, Bool.and_eq_true, decide_eq_true_eq]; simp only [Sp.tr]; omega)))))
 have h10p : ¬ (((Sp.cmp (Sp.crs ax ay px py qx qy) 0) ≤ 0)) := pB h10
 refine aw_p 31 (
  .a 1 5 <| .p (qN false (h3)) <| .a 10 5 <| .p (qN false (h10)) <| .e 10 5) ?_
 exact qF<|qB [.bool false] (show (.bool false : Value) = (.bool (Sp.triB (ax, ay) (px, py) (bx, b_y) (qx, qy))) from (congrArg Value.bool (show false = (Sp.triB (ax, ay) (px, py) (bx, b_y) (qx, qy)) from by (first | (rw [Sp.vJ aA]; simp only [Sp.onP, *, Bool.true_and, Bool.and_false, Bool.false_and, Bool.or_true, Bool.true_or, Bool.or_false, Bool.false_or, Bool.not_true, Bool.not_false]; done) | (rw [Sp.jD aA]; symm; simp only [Bool.or_eq_true, Bool.and_eq_true, decide_eq_true_eq]; simp only [Sp.tr]; omega) | (rw [Sp.jD aA]; symm; rw [← Bool.not_eq_true]; simp only [Bool.or_eq_true, Bool.and_eq_true, decide_eq_true_eq]; simp only [Sp.tr]; omega) | (rw [Sp.jD aA, Bool.eq_iff_iff]; simp only [Bool.or_eq_true, Bool.and_eq_true, decide_eq_true_eq]; simp only [Sp.tr]; omega)))))
open Go Go.Proofs
theorem may_ok (X : List Row) (u t : Nat) (hX : ∀ i, Sp.Few 1048576 (X.getD i [])) (hz : ∀ i, i < X.length → 2 ≤ (X.getD i []).length ∧ (X.getD i []).length ≤ 200) (hn : X.length ≤ 20) (hi : u < X.length) (ht : 1 ≤ t ∧ t + 1 < (X.getD u []).length) :
    AC Try.prog 68 (1 + X.length) [.slice (some ⟨0, 0, none⟩) X.length 0, .int .i64 ((u : Nat) : Int), .int .i64 ((t : Nat) : Int)] (famP 24 29 X) (.bool (Sp.mayB X (X.getD u []) t)) [] := by
 have zi := hz u hi; have f1 := hX u t; have f2 := hX u (t - 1); have f3 := hX u (t + 1)
 refine acF Try.func68 ⟨.slice _ _ _ _ rfl, qT rfl, qT rfl, trivial⟩ rfl (fun w0 W pin => ?_)
 refine aw_e 3 1 1<|aw_d 7 (
  .a 2 1 <| .p (iX 36 14 15 0 0 X.length 1 ((u : Nat) : Int) oO oO) <|
  .p (lD 24 16 0 (0 + (((u : Nat) : Int)).toNat * 1) ⟨(hds (· + 200) X), 24, false, 1⟩ (.slice (some ⟨(u + 200), 0, none⟩) ((X.getD u []).length) 0) z24) <|
  .a 1 1 <| .p (qJ ((t - 1 : Nat) : Int) ((show (IntKind.wrap .i64 (((t : Nat) : Int) - 1)) = ((t - 1 : Nat) : Int) from ((wrap_i64 oO oO).trans oO))) .i64) <|
  .p (iX 24 17 19 (u + 200) 0 ((X.getD u []).length) 2 ((t - 1 : Nat) : Int) oO oO) <|
  .p (lD 29 20 (u + 200) (0 + (((t - 1 : Nat) : Int)).toNat * 2) ⟨((X.getD u []).flatMap ptc), 29, false, 2⟩ (.agg #[.int .i64 (((X.getD u []).getD (t - 1) (0, 0)).1), .int .i64 (((X.getD u []).getD (t - 1) (0, 0)).2)]) (qL (j := (t - 1)) kK kK oO oO)) <|
  .a 2 1 <| .p (iX 36 22 23 0 0 X.length 1 ((u : Nat) : Int) oO oO) <|
  .p (lD 24 24 0 (0 + (((u : Nat) : Int)).toNat * 1) ⟨(hds (· + 200) X), 24, false, 1⟩ (.slice (some ⟨(u + 200), 0, none⟩) ((X.getD u []).length) 0) z24) <|
  .a 1 1 <| .p (iX 24 25 26 (u + 200) 0 ((X.getD u []).length) 2 ((t : Nat) : Int) oO oO) <|
  .p (lD 29 27 (u + 200) (0 + (((t : Nat) : Int)).toNat * 2) ⟨((X.getD u []).flatMap ptc), 29, false, 2⟩ (.agg #[.int .i64 (((X.getD u []).getD t (0, 0)).1), .int .i64 (((X.getD u []).getD t (0, 0)).2)]) (qL (j := t) kK kK oO oO)) <|
  .a 2 1 <| .p (iX 36 29 30 0 0 X.length 1 ((u : Nat) : Int) oO oO) <|
  .p (lD 24 31 0 (0 + (((u : Nat) : Int)).toNat * 1) ⟨(hds (· + 200) X), 24, false, 1⟩ (.slice (some ⟨(u + 200), 0, none⟩) ((X.getD u []).length) 0) z24) <|
  .a 1 1 <| .p (qJ ((t + 1 : Nat) : Int) ((show (IntKind.wrap .i64 (((t : Nat) : Int) + 1)) = ((t + 1 : Nat) : Int) from ((wrap_i64 oO oO).trans oO))) .i64) <|
  .p (iX 24 32 34 (u + 200) 0 ((X.getD u []).length) 2 ((t + 1 : Nat) : Int) oO oO) <|
  .p (lD 29 35 (u + 200) (0 + (((t + 1 : Nat) : Int)).toNat * 2) ⟨((X.getD u []).flatMap ptc), 29, false, 2⟩ (.agg #[.int .i64 (((X.getD u []).getD (t + 1) (0, 0)).1), .int .i64 (((X.getD u []).getD (t + 1) (0, 0)).2)]) (qL (j := (t + 1)) kK kK oO oO)) <|
  .e 6 1) ?_
 refine wX [(0, .slice (some ⟨0, 0, none⟩) X.length 0), (1, .int .i64 ((u : Nat) : Int)), (6, .bool false), (7, .pointer (some ⟨1, 0, none⟩)), (8, .pointer (some ⟨2, 0, none⟩)), (9, .pointer (some ⟨3, 0, none⟩))] [(0, ⟨(hds (· + 200) X), 24, false, 1⟩), (1, ⟨[.int .i64 (((X.getD u []).getD (t - 1) (0, 0)).1), .int .i64 (((X.getD u []).getD (t - 1) (0, 0)).2)], 29, true, 2⟩), (2, ⟨[.int .i64 (((X.getD u []).getD t (0, 0)).1), .int .i64 (((X.getD u []).getD t (0, 0)).2)], 29, true, 2⟩), (3, ⟨[.int .i64 (((X.getD u []).getD (t + 1) (0, 0)).1), .int .i64 (((X.getD u []).getD (t + 1) (0, 0)).2)], 29, true, 2⟩)] (famR 29 X) ⟨(jJ _ _ _), kK, kK, kK, trivial⟩ (qS _ _) ?_
 refine qD 14 15<|lT (Sp.mPre (X.getD u []) t = false) (y := sb Try.f68 15) (S1 := mkF 1 [(0, .slice (some ⟨0, 0, none⟩) X.length 0), (6, .bool false), (7, .pointer (some ⟨1, 0, none⟩)), (8, .pointer (some ⟨2, 0, none⟩)), (9, .pointer (some ⟨3, 0, none⟩))] [(0, ⟨(hds (· + 200) X), 24, false, 1⟩), (1, ⟨[.int .i64 (((X.getD u []).getD (t - 1) (0, 0)).1), .int .i64 (((X.getD u []).getD (t - 1) (0, 0)).2)], 29, true, 2⟩), (2, ⟨[.int .i64 (((X.getD u []).getD t (0, 0)).1), .int .i64 (((X.getD u []).getD t (0, 0)).2)], 29, true, 2⟩), (3, ⟨[.int .i64 (((X.getD u []).getD (t + 1) (0, 0)).1), .int .i64 (((X.getD u []).getD (t + 1) (0, 0)).2)], 29, true, 2⟩)] (famR 29 X)) (fun hF1 => ?_) (fun K1 => ?_)
 ·refine qD 30 31<|aw_e 61 3 4<|qM 0 123<|q6 247<|al_wFh (jS (fun i : Nat => (fun (j : Nat) => mkF 1 [(7, .pointer (some ⟨1, 0, none⟩)), (8, .pointer (some ⟨2, 0, none⟩)), (9, .pointer (some ⟨3, 0, none⟩)), (69, .slice (some ⟨0, 0, none⟩) X.length 0), (70, .int .i64 ((X.length : Nat) : Int)), (71, .int .i64 ((j : Nat) : Int))] [(0, ⟨(hds (· + 200) X), 24, false, 1⟩), (1, ⟨[.int .i64 (((X.getD u []).getD (t - 1) (0, 0)).1), .int .i64 (((X.getD u []).getD (t - 1) (0, 0)).2)], 29, true, 2⟩), (2, ⟨[.int .i64 (((X.getD u []).getD t (0, 0)).1), .int .i64 (((X.getD u []).getD t (0, 0)).2)], 29, true, 2⟩), (3, ⟨[.int .i64 (((X.getD u []).getD (t + 1) (0, 0)).1), .int .i64 (((X.getD u []).getD (t + 1) (0, 0)).2)], 29, true, 2⟩)] (famR 29 X)) i) (fun i : Nat => (fun (j : Nat) => (j ≤ X.length) ∧ (Sp.uX (Sp.g2 (X.getD u []) (t - 1)) (Sp.g2 (X.getD u []) t) (Sp.g2 (X.getD u []) (t + 1)) X j = true)) i) (fun i : Nat => (fun (j : Nat) => X.length - j) i) (fun i hi1 ih1 => ?_) 0 (show (0 ≤ X.length) ∧ (Sp.uX (Sp.g2 (X.getD u []) (t - 1)) (Sp.g2 (X.getD u []) t) (Sp.g2 (X.getD u []) (t + 1)) X 0 = true) from ⟨by omega, by rfl⟩)) ⟨(jJ _ _ _), kK, kK, kK, trivial⟩ (qS _ _)
  obtain ⟨j, hv1⟩ : ∃ z, z = i := ⟨i, rfl⟩; subst hv1
  have hi1' : (j ≤ X.length) ∧ (Sp.uX (Sp.g2 (X.getD u []) (t - 1)) (Sp.g2 (X.getD u []) t) (Sp.g2 (X.getD u []) (t + 1)) X j = true) := hi1
  obtain ⟨hj, hA⟩ := hi1'
  show AL _ _ _ (mkF _ _ _ _) _
  refine qE<|aw_e 495 1 4<|qD 990 991<|qY 1980 1981 (decide (((j : Nat) : Int) < ((X.length : Nat) : Int))) (fun h3 => ?_) (fun h3 => ?_)
  ·have h3p : ((((j : Nat) : Int) < ((X.length : Nat) : Int))) := pB h3
   have hjl : j < X.length := oO; have zj := hz j hjl
   refine qH<|qD 1982 1983<|qM 1 3965<|aw_p 7931 (
    .p (iX 36 69 71 0 0 X.length 1 ((j : Nat) : Int) oO oO) <|
    .p (lD 24 73 0 (0 + (((j : Nat) : Int)).toNat * 1) ⟨(hds (· + 200) X), 24, false, 1⟩ (.slice (some ⟨(j + 200), 0, none⟩) ((X.getD j []).length) 0) (by rw [show (0 + (((j : Nat) : Int)).toNat * 1) = j from oO]; exact cY kK kK oO)) <|
    .e 1 4) ?_
   refine aw_e 15863 3 4<|qM 2 31727<|q6 63455<|al_wFh (jS (fun i : Nat => (fun (k : Nat) => mkF 1 [(7, .pointer (some ⟨1, 0, none⟩)), (8, .pointer (some ⟨2, 0, none⟩)), (9, .pointer (some ⟨3, 0, none⟩)), (11, .slice (some ⟨(j + 200), 0, none⟩) ((X.getD j []).length) 0), (69, .slice (some ⟨0, 0, none⟩) X.length 0), (70, .int .i64 ((X.length : Nat) : Int)), (71, .int .i64 ((j : Nat) : Int)), (75, .slice (some ⟨(j + 200), 0, none⟩) ((X.getD j []).length) 0), (76, .int .i64 (((X.getD j []).length : Nat) : Int)), (77, .int .i64 ((k : Nat) : Int))] [(0, ⟨(hds (· + 200) X), 24, false, 1⟩), (1, ⟨[.int .i64 (((X.getD u []).getD (t - 1) (0, 0)).1), .int .i64 (((X.getD u []).getD (t - 1) (0, 0)).2)], 29, true, 2⟩), (2, ⟨[.int .i64 (((X.getD u []).getD t (0, 0)).1), .int .i64 (((X.getD u []).getD t (0, 0)).2)], 29, true, 2⟩), (3, ⟨[.int .i64 (((X.getD u []).getD (t + 1) (0, 0)).1), .int .i64 (((X.getD u []).getD (t + 1) (0, 0)).2)], 29, true, 2⟩)] (famR 29 X)) i) (fun i : Nat => (fun (k : Nat) => (k ≤ (X.getD j []).length) ∧ (Sp.fS (Sp.g2 (X.getD u []) (t - 1)) (Sp.g2 (X.getD u []) t) (Sp.g2 (X.getD u []) (t + 1)) (X.getD j []) k = true)) i) (fun i : Nat => (fun (k : Nat) => (X.getD j []).length - k) i) (fun i hi2 ih2 => ?_) 0 (show (0 ≤ (X.getD j []).length) ∧ (Sp.fS (Sp.g2 (X.getD u []) (t - 1)) (Sp.g2 (X.getD u []) t) (Sp.g2 (X.getD u []) (t + 1)) (X.getD j []) 0 = true) from ⟨by omega, by rfl⟩)) ⟨(jJ _ _ _), kK, kK, kK, trivial⟩ (qS _ _)
   obtain ⟨k, hv2⟩ : ∃ z, z = i := ⟨i, rfl⟩; subst hv2
   have hi2' : (k ≤ (X.getD j []).length) ∧ (Sp.fS (Sp.g2 (X.getD u []) (t - 1)) (Sp.g2 (X.getD u []) t) (Sp.g2 (X.getD u []) (t + 1)) (X.getD j []) k = true) := hi2
   obtain ⟨hk, hB⟩ := hi2'
   show AL _ _ _ (mkF _ _ _ _) _
   have g1 := hX j k; have g2 := hX j (k - 1)
   refine qE<|aw_e 126911 1 4<|qD 253822 253823<|qY 507644 507645 (decide (((k : Nat) : Int) < (((X.getD j []).length : Nat) : Int))) (fun h4 => ?_) (fun h4 => ?_)
   ·have h4p : ((((k : Nat) : Int) < (((X.getD j []).length : Nat) : Int))) := pB h4
    have hkl : k < (X.getD j []).length := by omega
    refine qH<|qD 507646 507647<|qM 3 1015293<|aw_p 2030587 (
     .a 1 4 <| .p (iX 24 75 77 (j + 200) 0 ((X.getD j []).length) 2 ((k : Nat) : Int) oO oO) <|
     .p (lD 29 80 (j + 200) (0 + (((k : Nat) : Int)).toNat * 2) ⟨((X.getD j []).flatMap ptc), 29, false, 2⟩ (.agg #[.int .i64 (((X.getD j []).getD k (0, 0)).1), .int .i64 (((X.getD j []).getD k (0, 0)).2)]) (qL (j := k) kK kK oO oO)) <|
     .e 3 4) ?_
    refine qD 4061174 4061175<|lT (Sp.clA (Sp.g2 (X.getD u []) (t - 1)) (Sp.g2 (X.getD u []) t) (Sp.g2 (X.getD u []) (t + 1)) (X.getD j []) k = true) (y := sb Try.f68 4061175) (S1 := mkF 1 [(7, .pointer (some ⟨1, 0, none⟩)), (8, .pointer (some ⟨2, 0, none⟩)), (9, .pointer (some ⟨3, 0, none⟩)), (11, .slice (some ⟨(j + 200), 0, none⟩) ((X.getD j []).length) 0), (12, .int .i64 ((k : Nat) : Int)), (13, .pointer (some ⟨4, 0, none⟩)), (69, .slice (some ⟨0, 0, none⟩) X.length 0), (70, .int .i64 ((X.length : Nat) : Int)), (71, .int .i64 ((j : Nat) : Int)), (75, .slice (some ⟨(j + 200), 0, none⟩) ((X.getD j []).length) 0), (76, .int .i64 (((X.getD j []).length : Nat) : Int)), (77, .int .i64 ((k : Nat) : Int)), (78, .bool (decide (((k : Nat) : Int) < (((X.getD j []).length : Nat) : Int))))] [(0, ⟨(hds (· + 200) X), 24, false, 1⟩), (1, ⟨[.int .i64 (((X.getD u []).getD (t - 1) (0, 0)).1), .int .i64 (((X.getD u []).getD (t - 1) (0, 0)).2)], 29, true, 2⟩), (2, ⟨[.int .i64 (((X.getD u []).getD t (0, 0)).1), .int .i64 (((X.getD u []).getD t (0, 0)).2)], 29, true, 2⟩), (3, ⟨[.int .i64 (((X.getD u []).getD (t + 1) (0, 0)).1), .int .i64 (((X.getD u []).getD (t + 1) (0, 0)).2)], 29, true, 2⟩), (4, ⟨[.int .i64 (((X.getD j []).getD k (0, 0)).1), .int .i64 (((X.getD j []).getD k (0, 0)).2)], 29, true, 2⟩)] (famR 29 X)) (fun hF2 => ?_) (fun K2 => ?_)
    ·refine aw_joinF (Sp.clC (Sp.g2 (X.getD u []) (t - 1)) (Sp.g2 (X.getD u []) (t + 1)) (X.getD j []) k = true) (y := sb Try.f68 8122351) (S1 := mkF 1 [(7, .pointer (some ⟨1, 0, none⟩)), (8, .pointer (some ⟨2, 0, none⟩)), (9, .pointer (some ⟨3, 0, none⟩)), (11, .slice (some ⟨(j + 200), 0, none⟩) ((X.getD j []).length) 0), (12, .int .i64 ((k : Nat) : Int)), (13, .pointer (some ⟨4, 0, none⟩)), (69, .slice (some ⟨0, 0, none⟩) X.length 0), (70, .int .i64 ((X.length : Nat) : Int)), (71, .int .i64 ((j : Nat) : Int)), (75, .slice (some ⟨(j + 200), 0, none⟩) ((X.getD j []).length) 0), (76, .int .i64 (((X.getD j []).length : Nat) : Int)), (77, .int .i64 ((k : Nat) : Int)), (78, .bool (decide (((k : Nat) : Int) < (((X.getD j []).length : Nat) : Int)))), (131, .bool false)] [(0, ⟨(hds (· + 200) X), 24, false, 1⟩), (1, ⟨[.int .i64 (((X.getD u []).getD (t - 1) (0, 0)).1), .int .i64 (((X.getD u []).getD (t - 1) (0, 0)).2)], 29, true, 2⟩), (2, ⟨[.int .i64 (((X.getD u []).getD t (0, 0)).1), .int .i64 (((X.getD u []).getD t (0, 0)).2)], 29, true, 2⟩), (3, ⟨[.int .i64 (((X.getD u []).getD (t + 1) (0, 0)).1), .int .i64 (((X.getD u []).getD (t + 1) (0, 0)).2)], 29, true, 2⟩), (4, ⟨[.int .i64 (((X.getD j []).getD k (0, 0)).1), .int .i64 (((X.getD j []).getD k (0, 0)).2)], 29, true, 2⟩)] (famR 29 X)) (fun hF3 => ?_) (fun K3 => ?_)
     ·refine qP 16244703<|qH<|qW (
       .p (qJ (((k : Nat) : Int) + 1) (wrap_i64 oO oO) .i64) <| .e 1 5) ?_
      exact al_wFh (ih2 (k + 1) (show ((k + 1) ≤ (X.getD j []).length) ∧ (Sp.fS (Sp.g2 (X.getD u []) (t - 1)) (Sp.g2 (X.getD u []) t) (Sp.g2 (X.getD u []) (t + 1)) (X.getD j []) (k + 1) = true) from ⟨by omega, by (exact Sp.eN hB (Sp.cell_yes aA aA))⟩) (show (X.getD j []).length - (k + 1) < (X.getD j []).length - k from by omega)) ⟨(jJ _ _ _), kK, kK, kK, trivial⟩ (qS _ _)
     rcases Bool.eq_false_or_eq_true (decide (((k : Nat) : Int) > 0)) with h9 | h9
     ·have h9p : ((((k : Nat) : Int) > 0)) := pB h9
      rcases Bool.eq_false_or_eq_true ((((((X.getD j []).getD (k - 1) (0, 0)).1) == (((X.getD u []).getD (t - 1) (0, 0)).1)) && (((((X.getD j []).getD (k - 1) (0, 0)).2) == (((X.getD u []).getD (t - 1) (0, 0)).2)) && true))) with h10 | h10
      ·rcases Bool.eq_false_or_eq_true ((((((X.getD j []).getD k (0, 0)).1) == (((X.getD u []).getD (t + 1) (0, 0)).1)) && (((((X.getD j []).getD k (0, 0)).2) == (((X.getD u []).getD (t + 1) (0, 0)).2)) && true))) with h11 | h11
       ·refine aw_d 8122351 (
         .a 1 5 <| .p (qN true (h9)) <| .a 3 5 <| .p (qJ ((k - 1 : Nat) : Int) ((show (IntKind.wrap .i64 (((k : Nat) : Int) - 1)) = ((k - 1 : Nat) : Int) from ((wrap_i64 oO oO).trans oO))) .i64) <|
         .p (iX 24 105 107 (j + 200) 0 ((X.getD j []).length) 2 ((k - 1 : Nat) : Int) oO oO) <|
         .p (lD 29 108 (j + 200) (0 + (((k - 1 : Nat) : Int)).toNat * 2) ⟨((X.getD j []).flatMap ptc), 29, false, 2⟩ (.agg #[.int .i64 (((X.getD j []).getD (k - 1) (0, 0)).1), .int .i64 (((X.getD j []).getD (k - 1) (0, 0)).2)]) (qL (j := (k - 1)) kK kK oO oO)) <|
         .a 1 5 <| .p (qV true (h10)) <| .a 3 5 <| .p (qV true (h11)) <| .e 16 5) ?_
        refine wX [(7, .pointer (some ⟨1, 0, none⟩)), (8, .pointer (some ⟨2, 0, none⟩)), (9, .pointer (some ⟨3, 0, none⟩)), (11, .slice (some ⟨(j + 200), 0, none⟩) ((X.getD j []).length) 0), (12, .int .i64 ((k : Nat) : Int)), (13, .pointer (some ⟨4, 0, none⟩)), (69, .slice (some ⟨0, 0, none⟩) X.length 0), (70, .int .i64 ((X.length : Nat) : Int)), (71, .int .i64 ((j : Nat) : Int)), (75, .slice (some ⟨(j + 200), 0, none⟩) ((X.getD j []).length) 0), (76, .int .i64 (((X.getD j []).length : Nat) : Int)), (77, .int .i64 ((k : Nat) : Int)), (78, .bool (decide (((k : Nat) : Int) < (((X.getD j []).length : Nat) : Int)))), (131, .bool true)] [(0, ⟨(hds (· + 200) X), 24, false, 1⟩), (1, ⟨[.int .i64 (((X.getD u []).getD (t - 1) (0, 0)).1), .int .i64 (((X.getD u []).getD (t - 1) (0, 0)).2)], 29, true, 2⟩), (2, ⟨[.int .i64 (((X.getD u []).getD t (0, 0)).1), .int .i64 (((X.getD u []).getD t (0, 0)).2)], 29, true, 2⟩), (3, ⟨[.int .i64 (((X.getD u []).getD (t + 1) (0, 0)).1), .int .i64 (((X.getD u []).getD (t + 1) (0, 0)).2)], 29, true, 2⟩), (4, ⟨[.int .i64 (((X.getD j []).getD k (0, 0)).1), .int .i64 (((X.getD j []).getD k (0, 0)).2)], 29, true, 2⟩)] (famR 29 X) ⟨(jJ _ _ _), kK, kK, kK, kK, trivial⟩ (qS _ _) ?_
        exact qR 16244702<|aw_e 32489405 1 5<|qF<|qB [.bool false] (show (.bool false : Value) = (.bool (Sp.mayB X (X.getD u []) t)) from (congrArg Value.bool (show false = (Sp.mayB X (X.getD u []) t) from by (first | exact (Sp.wP aA z41).symm | exact (Sp.vG hjl hkl (Sp.j8 aA)).symm | (refine (Sp.vG hjl hkl (Sp.xL ?_)).symm; simp only [Sp.clA, Sp.eqTo, Sp.g2, *, Bool.true_and, Bool.and_false, Bool.false_and, Bool.or_true, Bool.true_or, Bool.or_false, Bool.false_or, Bool.not_true, Bool.not_false, decide_true, decide_false]; done) | (refine (Sp.vG hjl hkl (Sp.j8 ?_)).symm; simp only [Sp.clC, Sp.eqTo, Sp.g2, *, Bool.true_and, Bool.and_false, Bool.false_and, Bool.or_true, Bool.true_or, Bool.or_false, Bool.false_or, Bool.not_true, Bool.not_false, decide_true, decide_false]; done) | (refine (Sp.wQ ?_).symm; simp only [Sp.mPre, Sp.eqTo, Sp.g2, *, Bool.true_and, Bool.and_false, Bool.false_and, Bool.or_true, Bool.true_or, Bool.or_false, Bool.false_or, Bool.not_true, Bool.not_false, decide_true, decide_false]; done)))))
       rcases Bool.eq_false_or_eq_true ((((((X.getD j []).getD (k - 1) (0, 0)).1) == (((X.getD u []).getD (t + 1) (0, 0)).1)) && (((((X.getD j []).getD (k - 1) (0, 0)).2) == (((X.getD u []).getD (t + 1) (0, 0)).2)) && true))) with h12 | h12
       ·rcases Bool.eq_false_or_eq_true ((((((X.getD j []).getD k (0, 0)).1) == (((X.getD u []).getD (t - 1) (0, 0)).1)) && (((((X.getD j []).getD k (0, 0)).2) == (((X.getD u []).getD (t - 1) (0, 0)).2)) && true))) with h13 | h13
        ·refine aw_d 8122351 (
          .a 1 5 <| .p (qN true (h9)) <| .a 3 5 <| .p (qJ ((k - 1 : Nat) : Int) ((show (IntKind.wrap .i64 (((k : Nat) : Int) - 1)) = ((k - 1 : Nat) : Int) from ((wrap_i64 oO oO).trans oO))) .i64) <|
          .p (iX 24 105 107 (j + 200) 0 ((X.getD j []).length) 2 ((k - 1 : Nat) : Int) oO oO) <|
          .p (lD 29 108 (j + 200) (0 + (((k - 1 : Nat) : Int)).toNat * 2) ⟨((X.getD j []).flatMap ptc), 29, false, 2⟩ (.agg #[.int .i64 (((X.getD j []).getD (k - 1) (0, 0)).1), .int .i64 (((X.getD j []).getD (k - 1) (0, 0)).2)]) (qL (j := (k - 1)) kK kK oO oO)) <|
          .a 1 5 <| .p (qV true (h10)) <| .a 3 5 <| .p (qV false (h11)) <| .a 4 5 <| .p (qJ ((k - 1 : Nat) : Int) ((show (IntKind.wrap .i64 (((k : Nat) : Int) - 1)) = ((k - 1 : Nat) : Int) from ((wrap_i64 oO oO).trans oO))) .i64) <|
          .p (iX 24 118 120 (j + 200) 0 ((X.getD j []).length) 2 ((k - 1 : Nat) : Int) oO oO) <|
          .p (lD 29 121 (j + 200) (0 + (((k - 1 : Nat) : Int)).toNat * 2) ⟨((X.getD j []).flatMap ptc), 29, false, 2⟩ (.agg #[.int .i64 (((X.getD j []).getD (k - 1) (0, 0)).1), .int .i64 (((X.getD j []).getD (k - 1) (0, 0)).2)]) (qL (j := (k - 1)) kK kK oO oO)) <|
          .a 1 5 <| .p (qV true (h12)) <| .a 3 5 <| .p (qV true (h13)) <| .e 3 5) ?_
         refine wX [(7, .pointer (some ⟨1, 0, none⟩)), (8, .pointer (some ⟨2, 0, none⟩)), (9, .pointer (some ⟨3, 0, none⟩)), (11, .slice (some ⟨(j + 200), 0, none⟩) ((X.getD j []).length) 0), (12, .int .i64 ((k : Nat) : Int)), (13, .pointer (some ⟨4, 0, none⟩)), (69, .slice (some ⟨0, 0, none⟩) X.length 0), (70, .int .i64 ((X.length : Nat) : Int)), (71, .int .i64 ((j : Nat) : Int)), (75, .slice (some ⟨(j + 200), 0, none⟩) ((X.getD j []).length) 0), (76, .int .i64 (((X.getD j []).length : Nat) : Int)), (77, .int .i64 ((k : Nat) : Int)), (78, .bool (decide (((k : Nat) : Int) < (((X.getD j []).length : Nat) : Int)))), (131, .bool true)] [(0, ⟨(hds (· + 200) X), 24, false, 1⟩), (1, ⟨[.int .i64 (((X.getD u []).getD (t - 1) (0, 0)).1), .int .i64 (((X.getD u []).getD (t - 1) (0, 0)).2)], 29, true, 2⟩), (2, ⟨[.int .i64 (((X.getD u []).getD t (0, 0)).1), .int .i64 (((X.getD u []).getD t (0, 0)).2)], 29, true, 2⟩), (3, ⟨[.int .i64 (((X.getD u []).getD (t + 1) (0, 0)).1), .int .i64 (((X.getD u []).getD (t + 1) (0, 0)).2)], 29, true, 2⟩), (4, ⟨[.int .i64 (((X.getD j []).getD k (0, 0)).1), .int .i64 (((X.getD j []).getD k (0, 0)).2)], 29, true, 2⟩)] (famR 29 X) ⟨(jJ _ _ _), kK, kK, kK, kK, trivial⟩ (qS _ _) ?_
         exact qR 16244702<|aw_e 32489405 1 5<|qF<|qB [.bool false] (show (.bool false : Value) = (.bool (Sp.mayB X (X.getD u []) t)) from (congrArg Value.bool (show false = (Sp.mayB X (X.getD u []) t) from by (first | exact (Sp.wP aA z41).symm | exact (Sp.vG hjl hkl (Sp.j8 aA)).symm | (refine (Sp.vG hjl hkl (Sp.xL ?_)).symm; simp only [Sp.clA, Sp.eqTo, Sp.g2, *, Bool.true_and, Bool.and_false, Bool.false_and, Bool.or_true, Bool.true_or, Bool.or_false, Bool.false_or, Bool.not_true, Bool.not_false, decide_true, decide_false]; done) | (refine (Sp.vG hjl hkl (Sp.j8 ?_)).symm; simp only [Sp.clC, Sp.eqTo, Sp.g2, *, Bool.true_and, Bool.and_false, Bool.false_and, Bool.or_true, Bool.true_or, Bool.or_false, Bool.false_or, Bool.not_true, Bool.not_false, decide_true, decide_false]; done) | (refine (Sp.wQ ?_).symm; simp only [Sp.mPre, Sp.eqTo, Sp.g2, *, Bool.true_and, Bool.and_false, Bool.false_and, Bool.or_true, Bool.true_or, Bool.or_false, Bool.false_or, Bool.not_true, Bool.not_false, decide_true, decide_false]; done)))))
        refine aw_d 8122351 (
         .a 1 5 <| .p (qN true (h9)) <| .a 3 5 <| .p (qJ ((k - 1 : Nat) : Int) ((show (IntKind.wrap .i64 (((k : Nat) : Int) - 1)) = ((k - 1 : Nat) : Int) from ((wrap_i64 oO oO).trans oO))) .i64) <|
         .p (iX 24 105 107 (j + 200) 0 ((X.getD j []).length) 2 ((k - 1 : Nat) : Int) oO oO) <|
         .p (lD 29 108 (j + 200) (0 + (((k - 1 : Nat) : Int)).toNat * 2) ⟨((X.getD j []).flatMap ptc), 29, false, 2⟩ (.agg #[.int .i64 (((X.getD j []).getD (k - 1) (0, 0)).1), .int .i64 (((X.getD j []).getD (k - 1) (0, 0)).2)]) (qL (j := (k - 1)) kK kK oO oO)) <|
         .a 1 5 <| .p (qV true (h10)) <| .a 3 5 <| .p (qV false (h11)) <| .a 4 5 <| .p (qJ ((k - 1 : Nat) : Int) ((show (IntKind.wrap .i64 (((k : Nat) : Int) - 1)) = ((k - 1 : Nat) : Int) from ((wrap_i64 oO oO).trans oO))) .i64) <|
         .p (iX 24 118 120 (j + 200) 0 ((X.getD j []).length) 2 ((k - 1 : Nat) : Int) oO oO) <|
         .p (lD 29 121 (j + 200) (0 + (((k - 1 : Nat) : Int)).toNat * 2) ⟨((X.getD j []).flatMap ptc), 29, false, 2⟩ (.agg #[.int .i64 (((X.getD j []).getD (k - 1) (0, 0)).1), .int .i64 (((X.getD j []).getD (k - 1) (0, 0)).2)]) (qL (j := (k - 1)) kK kK oO oO)) <|
         .a 1 5 <| .p (qV true (h12)) <| .a 3 5 <| .p (qV false (h13)) <| .e 3 5) ?_
        exact yW (K3 z10) ⟨(jJ _ _ _), kK, kK, kK, kK, trivial⟩ (qS _ _)
       refine aw_d 8122351 (
        .a 1 5 <| .p (qN true (h9)) <| .a 3 5 <| .p (qJ ((k - 1 : Nat) : Int) ((show (IntKind.wrap .i64 (((k : Nat) : Int) - 1)) = ((k - 1 : Nat) : Int) from ((wrap_i64 oO oO).trans oO))) .i64) <|
        .p (iX 24 105 107 (j + 200) 0 ((X.getD j []).length) 2 ((k - 1 : Nat) : Int) oO oO) <|
        .p (lD 29 108 (j + 200) (0 + (((k - 1 : Nat) : Int)).toNat * 2) ⟨((X.getD j []).flatMap ptc), 29, false, 2⟩ (.agg #[.int .i64 (((X.getD j []).getD (k - 1) (0, 0)).1), .int .i64 (((X.getD j []).getD (k - 1) (0, 0)).2)]) (qL (j := (k - 1)) kK kK oO oO)) <|
        .a 1 5 <| .p (qV true (h10)) <| .a 3 5 <| .p (qV false (h11)) <| .a 4 5 <| .p (qJ ((k - 1 : Nat) : Int) ((show (IntKind.wrap .i64 (((k : Nat) : Int) - 1)) = ((k - 1 : Nat) : Int) from ((wrap_i64 oO oO).trans oO))) .i64) <|
        .p (iX 24 118 120 (j + 200) 0 ((X.getD j []).length) 2 ((k - 1 : Nat) : Int) oO oO) <|
        .p (lD 29 121 (j + 200) (0 + (((k - 1 : Nat) : Int)).toNat * 2) ⟨((X.getD j []).flatMap ptc), 29, false, 2⟩ (.agg #[.int .i64 (((X.getD j []).getD (k - 1) (0, 0)).1), .int .i64 (((X.getD j []).getD (k - 1) (0, 0)).2)]) (qL (j := (k - 1)) kK kK oO oO)) <|
        .a 1 5 <| .p (qV false (h12)) <| .e 7 5) ?_
       exact yW (K3 z10) ⟨(jJ _ _ _), kK, kK, kK, kK, trivial⟩ (qS _ _)
      rcases Bool.eq_false_or_eq_true ((((((X.getD j []).getD (k - 1) (0, 0)).1) == (((X.getD u []).getD (t + 1) (0, 0)).1)) && (((((X.getD j []).getD (k - 1) (0, 0)).2) == (((X.getD u []).getD (t + 1) (0, 0)).2)) && true))) with h14 | h14
      ·rcases Bool.eq_false_or_eq_true ((((((X.getD j []).getD k (0, 0)).1) == (((X.getD u []).getD (t - 1) (0, 0)).1)) && (((((X.getD j []).getD k (0, 0)).2) == (((X.getD u []).getD (t - 1) (0, 0)).2)) && true))) with h15 | h15
       ·refine aw_d 8122351 (
         .a 1 5 <| .p (qN true (h9)) <| .a 3 5 <| .p (qJ ((k - 1 : Nat) : Int) ((show (IntKind.wrap .i64 (((k : Nat) : Int) - 1)) = ((k - 1 : Nat) : Int) from ((wrap_i64 oO oO).trans oO))) .i64) <|
         .p (iX 24 105 107 (j + 200) 0 ((X.getD j []).length) 2 ((k - 1 : Nat) : Int) oO oO) <|
         .p (lD 29 108 (j + 200) (0 + (((k - 1 : Nat) : Int)).toNat * 2) ⟨((X.getD j []).flatMap ptc), 29, false, 2⟩ (.agg #[.int .i64 (((X.getD j []).getD (k - 1) (0, 0)).1), .int .i64 (((X.getD j []).getD (k - 1) (0, 0)).2)]) (qL (j := (k - 1)) kK kK oO oO)) <|
         .a 1 5 <| .p (qV false (h10)) <| .a 8 5 <| .p (qJ ((k - 1 : Nat) : Int) ((show (IntKind.wrap .i64 (((k : Nat) : Int) - 1)) = ((k - 1 : Nat) : Int) from ((wrap_i64 oO oO).trans oO))) .i64) <|
         .p (iX 24 118 120 (j + 200) 0 ((X.getD j []).length) 2 ((k - 1 : Nat) : Int) oO oO) <|
         .p (lD 29 121 (j + 200) (0 + (((k - 1 : Nat) : Int)).toNat * 2) ⟨((X.getD j []).flatMap ptc), 29, false, 2⟩ (.agg #[.int .i64 (((X.getD j []).getD (k - 1) (0, 0)).1), .int .i64 (((X.getD j []).getD (k - 1) (0, 0)).2)]) (qL (j := (k - 1)) kK kK oO oO)) <|
         .a 1 5 <| .p (qV true (h14)) <| .a 3 5 <| .p (qV true (h15)) <| .e 3 5) ?_
        refine wX [(7, .pointer (some ⟨1, 0, none⟩)), (8, .pointer (some ⟨2, 0, none⟩)), (9, .pointer (some ⟨3, 0, none⟩)), (11, .slice (some ⟨(j + 200), 0, none⟩) ((X.getD j []).length) 0), (12, .int .i64 ((k : Nat) : Int)), (13, .pointer (some ⟨4, 0, none⟩)), (69, .slice (some ⟨0, 0, none⟩) X.length 0), (70, .int .i64 ((X.length : Nat) : Int)), (71, .int .i64 ((j : Nat) : Int)), (75, .slice (some ⟨(j + 200), 0, none⟩) ((X.getD j []).length) 0), (76, .int .i64 (((X.getD j []).length : Nat) : Int)), (77, .int .i64 ((k : Nat) : Int)), (78, .bool (decide (((k : Nat) : Int) < (((X.getD j []).length : Nat) : Int)))), (131, .bool true)] [(0, ⟨(hds (· + 200) X), 24, false, 1⟩), (1, ⟨[.int .i64 (((X.getD u []).getD (t - 1) (0, 0)).1), .int .i64 (((X.getD u []).getD (t - 1) (0, 0)).2)], 29, true, 2⟩), (2, ⟨[.int .i64 (((X.getD u []).getD t (0, 0)).1), .int .i64 (((X.getD u []).getD t (0, 0)).2)], 29, true, 2⟩), (3, ⟨[.int .i64 (((X.getD u []).getD (t + 1) (0, 0)).1), .int .i64 (((X.getD u []).getD (t + 1) (0, 0)).2)], 29, true, 2⟩), (4, ⟨[.int .i64 (((X.getD j []).getD k (0, 0)).1), .int .i64 (((X.getD j []).getD k (0, 0)).2)], 29, true, 2⟩)] (famR 29 X) ⟨(jJ _ _ _), kK, kK, kK, kK, trivial⟩ (qS _ _) ?_
        exact qR 16244702<|aw_e 32489405 1 5<|qF<|qB [.bool false] (show (.bool false : Value) = (.bool (Sp.mayB X (X.getD u []) t)) from (congrArg Value.bool (show false = (Sp.mayB X (X.getD u []) t) from by (first | exact (Sp.wP aA z41).symm | exact (Sp.vG hjl hkl (Sp.j8 aA)).symm | (refine (Sp.vG hjl hkl (Sp.xL ?_)).symm; simp only [Sp.clA, Sp.eqTo, Sp.g2, *, Bool.true_and, Bool.and_false, Bool.false_and, Bool.or_true, Bool.true_or, Bool.or_false, Bool.false_or, Bool.not_true, Bool.not_false, decide_true, decide_false]; done) | (refine (Sp.vG hjl hkl (Sp.j8 ?_)).symm; simp only [Sp.clC, Sp.eqTo, Sp.g2, *, Bool.true_and, Bool.and_false, Bool.false_and, Bool.or_true, Bool.true_or, Bool.or_false, Bool.false_or, Bool.not_true, Bool.not_false, decide_true, decide_false]; done) | (refine (Sp.wQ ?_).symm; simp only [Sp.mPre, Sp.eqTo, Sp.g2, *, Bool.true_and, Bool.and_false, Bool.false_and, Bool.or_true, Bool.true_or, Bool.or_false, Bool.false_or, Bool.not_true, Bool.not_false, decide_true, decide_false]; done)))))
       refine aw_d 8122351 (
        .a 1 5 <| .p (qN true (h9)) <| .a 3 5 <| .p (qJ ((k - 1 : Nat) : Int) ((show (IntKind.wrap .i64 (((k : Nat) : Int) - 1)) = ((k - 1 : Nat) : Int) from ((wrap_i64 oO oO).trans oO))) .i64) <|
        .p (iX 24 105 107 (j + 200) 0 ((X.getD j []).length) 2 ((k - 1 : Nat) : Int) oO oO) <|
        .p (lD 29 108 (j + 200) (0 + (((k - 1 : Nat) : Int)).toNat * 2) ⟨((X.getD j []).flatMap ptc), 29, false, 2⟩ (.agg #[.int .i64 (((X.getD j []).getD (k - 1) (0, 0)).1), .int .i64 (((X.getD j []).getD (k - 1) (0, 0)).2)]) (qL (j := (k - 1)) kK kK oO oO)) <|
        .a 1 5 <| .p (qV false (h10)) <| .a 8 5 <| .p (qJ ((k - 1 : Nat) : Int) ((show (IntKind.wrap .i64 (((k : Nat) : Int) - 1)) = ((k - 1 : Nat) : Int) from ((wrap_i64 oO oO).trans oO))) .i64) <|
        .p (iX 24 118 120 (j + 200) 0 ((X.getD j []).length) 2 ((k - 1 : Nat) : Int) oO oO) <|
        .p (lD 29 121 (j + 200) (0 + (((k - 1 : Nat) : Int)).toNat * 2) ⟨((X.getD j []).flatMap ptc), 29, false, 2⟩ (.agg #[.int .i64 (((X.getD j []).getD (k - 1) (0, 0)).1), .int .i64 (((X.getD j []).getD (k - 1) (0, 0)).2)]) (qL (j := (k - 1)) kK kK oO oO)) <|
        .a 1 5 <| .p (qV true (h14)) <| .a 3 5 <| .p (qV false (h15)) <| .e 3 5) ?_
       exact yW (K3 z10) ⟨(jJ _ _ _), kK, kK, kK, kK, trivial⟩ (qS _ _)
      refine aw_d 8122351 (
       .a 1 5 <| .p (qN true (h9)) <| .a 3 5 <| .p (qJ ((k - 1 : Nat) : Int) ((show (IntKind.wrap .i64 (((k : Nat) : Int) - 1)) = ((k - 1 : Nat) : Int) from ((wrap_i64 oO oO).trans oO))) .i64) <|
       .p (iX 24 105 107 (j + 200) 0 ((X.getD j []).length) 2 ((k - 1 : Nat) : Int) oO oO) <|
       .p (lD 29 108 (j + 200) (0 + (((k - 1 : Nat) : Int)).toNat * 2) ⟨((X.getD j []).flatMap ptc), 29, false, 2⟩ (.agg #[.int .i64 (((X.getD j []).getD (k - 1) (0, 0)).1), .int .i64 (((X.getD j []).getD (k - 1) (0, 0)).2)]) (qL (j := (k - 1)) kK kK oO oO)) <|
       .a 1 5 <| .p (qV false (h10)) <| .a 8 5 <| .p (qJ ((k - 1 : Nat) : Int) ((show (IntKind.wrap .i64 (((k : Nat) : Int) - 1)) = ((k - 1 : Nat) : Int) from ((wrap_i64 oO oO).trans oO))) .i64) <|
       .p (iX 24 118 120 (j + 200) 0 ((X.getD j []).length) 2 ((k - 1 : Nat) : Int) oO oO) <|
       .p (lD 29 121 (j + 200) (0 + (((k - 1 : Nat) : Int)).toNat * 2) ⟨((X.getD j []).flatMap ptc), 29, false, 2⟩ (.agg #[.int .i64 (((X.getD j []).getD (k - 1) (0, 0)).1), .int .i64 (((X.getD j []).getD (k - 1) (0, 0)).2)]) (qL (j := (k - 1)) kK kK oO oO)) <|
       .a 1 5 <| .p (qV false (h14)) <| .e 7 5) ?_
      exact yW (K3 z10) ⟨(jJ _ _ _), kK, kK, kK, kK, trivial⟩ (qS _ _)
     have h9p : ¬ ((((k : Nat) : Int) > 0)) := pB h9
     refine aw_d 8122351 (
      .a 1 5 <| .p (qN false (h9)) <| .e 28 5) ?_
     exact yW (K3 z10) ⟨(jJ _ _ _), kK, kK, kK, kK, trivial⟩ (qS _ _)
    rcases Bool.eq_false_or_eq_true (!(((((X.getD j []).getD k (0, 0)).1) == (((X.getD u []).getD (t - 1) (0, 0)).1)) && (((((X.getD j []).getD k (0, 0)).2) == (((X.getD u []).getD (t - 1) (0, 0)).2)) && true))) with h5 | h5
    ·rcases Bool.eq_false_or_eq_true (!(((((X.getD j []).getD k (0, 0)).1) == (((X.getD u []).getD (t + 1) (0, 0)).1)) && (((((X.getD j []).getD k (0, 0)).2) == (((X.getD u []).getD (t + 1) (0, 0)).2)) && true))) with h6 | h6
     ·rcases Bool.eq_false_or_eq_true (!(((((X.getD j []).getD k (0, 0)).1) == (((X.getD u []).getD t (0, 0)).1)) && (((((X.getD j []).getD k (0, 0)).2) == (((X.getD u []).getD t (0, 0)).2)) && true))) with h7 | h7
      ·rcases Bool.eq_false_or_eq_true (Sp.triB (((X.getD u []).getD (t - 1) (0, 0)).1, ((X.getD u []).getD (t - 1) (0, 0)).2) (((X.getD u []).getD t (0, 0)).1, ((X.getD u []).getD t (0, 0)).2) (((X.getD u []).getD (t + 1) (0, 0)).1, ((X.getD u []).getD (t + 1) (0, 0)).2) (((X.getD j []).getD k (0, 0)).1, ((X.getD j []).getD k (0, 0)).2)) with h8 | h8
       ·refine aw_p 8122349 (
         .a 2 5 <| .p (qV true (h5)) <| .a 3 5 <| .p (qV true (h6)) <| .a 4 5 <| .p (qV true (h7)) <| .a 6 5 <|
         .p (xJ _ (rS (((X.getD u []).getD (t - 1) (0, 0)).1) (((X.getD u []).getD (t - 1) (0, 0)).2) (((X.getD u []).getD t (0, 0)).1) (((X.getD u []).getD t (0, 0)).2) (((X.getD u []).getD (t + 1) (0, 0)).1) (((X.getD u []).getD (t + 1) (0, 0)).2) (((X.getD j []).getD k (0, 0)).1) (((X.getD j []).getD k (0, 0)).2) oO oO oO oO oO oO oO oO oO oO oO oO oO oO oO oO) true (h8)) <|
         .e 1 5) ?_
        refine wX [(7, .pointer (some ⟨1, 0, none⟩)), (8, .pointer (some ⟨2, 0, none⟩)), (9, .pointer (some ⟨3, 0, none⟩)), (11, .slice (some ⟨(j + 200), 0, none⟩) ((X.getD j []).length) 0), (12, .int .i64 ((k : Nat) : Int)), (13, .pointer (some ⟨4, 0, none⟩)), (69, .slice (some ⟨0, 0, none⟩) X.length 0), (70, .int .i64 ((X.length : Nat) : Int)), (71, .int .i64 ((j : Nat) : Int)), (75, .slice (some ⟨(j + 200), 0, none⟩) ((X.getD j []).length) 0), (76, .int .i64 (((X.getD j []).length : Nat) : Int)), (77, .int .i64 ((k : Nat) : Int)), (78, .bool (decide (((k : Nat) : Int) < (((X.getD j []).length : Nat) : Int)))), (101, .bool true)] [(0, ⟨(hds (· + 200) X), 24, false, 1⟩), (1, ⟨[.int .i64 (((X.getD u []).getD (t - 1) (0, 0)).1), .int .i64 (((X.getD u []).getD (t - 1) (0, 0)).2)], 29, true, 2⟩), (2, ⟨[.int .i64 (((X.getD u []).getD t (0, 0)).1), .int .i64 (((X.getD u []).getD t (0, 0)).2)], 29, true, 2⟩), (3, ⟨[.int .i64 (((X.getD u []).getD (t + 1) (0, 0)).1), .int .i64 (((X.getD u []).getD (t + 1) (0, 0)).2)], 29, true, 2⟩), (4, ⟨[.int .i64 (((X.getD j []).getD k (0, 0)).1), .int .i64 (((X.getD j []).getD k (0, 0)).2)], 29, true, 2⟩)] (famR 29 X) ⟨(jJ _ _ _), kK, kK, kK, kK, trivial⟩ (qS _ _) ?_
        exact qR 16244698<|aw_e 32489397 1 5<|qF<|qB [.bool false] (show (.bool false : Value) = (.bool (Sp.mayB X (X.getD u []) t)) from (congrArg Value.bool (show false = (Sp.mayB X (X.getD u []) t) from by (first | exact (Sp.wP aA z41).symm | exact (Sp.vG hjl hkl (Sp.j8 aA)).symm | (refine (Sp.vG hjl hkl (Sp.xL ?_)).symm; simp only [Sp.clA, Sp.eqTo, Sp.g2, *, Bool.true_and, Bool.and_false, Bool.false_and, Bool.or_true, Bool.true_or, Bool.or_false, Bool.false_or, Bool.not_true, Bool.not_false, decide_true, decide_false]; done) | (refine (Sp.vG hjl hkl (Sp.j8 ?_)).symm; simp only [Sp.clC, Sp.eqTo, Sp.g2, *, Bool.true_and, Bool.and_false, Bool.false_and, Bool.or_true, Bool.true_or, Bool.or_false, Bool.false_or, Bool.not_true, Bool.not_false, decide_true, decide_false]; done) | (refine (Sp.wQ ?_).symm; simp only [Sp.mPre, Sp.eqTo, Sp.g2, *, Bool.true_and, Bool.and_false, Bool.false_and, Bool.or_true, Bool.true_or, Bool.or_false, Bool.false_or, Bool.not_true, Bool.not_false, decide_true, decide_false]; done)))))
       refine aw_p 8122349 (
        .a 2 5 <| .p (qV true (h5)) <| .a 3 5 <| .p (qV true (h6)) <| .a 4 5 <| .p (qV true (h7)) <| .a 6 5 <|
        .p (xJ _ (rS (((X.getD u []).getD (t - 1) (0, 0)).1) (((X.getD u []).getD (t - 1) (0, 0)).2) (((X.getD u []).getD t (0, 0)).1) (((X.getD u []).getD t (0, 0)).2) (((X.getD u []).getD (t + 1) (0, 0)).1) (((X.getD u []).getD (t + 1) (0, 0)).2) (((X.getD j []).getD k (0, 0)).1) (((X.getD j []).getD k (0, 0)).2) oO oO oO oO oO oO oO oO oO oO oO oO oO oO oO oO) false (h8)) <|
        .e 1 5) ?_
       refine wX [(7, .pointer (some ⟨1, 0, none⟩)), (8, .pointer (some ⟨2, 0, none⟩)), (9, .pointer (some ⟨3, 0, none⟩)), (11, .slice (some ⟨(j + 200), 0, none⟩) ((X.getD j []).length) 0), (12, .int .i64 ((k : Nat) : Int)), (13, .pointer (some ⟨4, 0, none⟩)), (69, .slice (some ⟨0, 0, none⟩) X.length 0), (70, .int .i64 ((X.length : Nat) : Int)), (71, .int .i64 ((j : Nat) : Int)), (75, .slice (some ⟨(j + 200), 0, none⟩) ((X.getD j []).length) 0), (76, .int .i64 (((X.getD j []).length : Nat) : Int)), (77, .int .i64 ((k : Nat) : Int)), (78, .bool (decide (((k : Nat) : Int) < (((X.getD j []).length : Nat) : Int)))), (101, .bool false)] [(0, ⟨(hds (· + 200) X), 24, false, 1⟩), (1, ⟨[.int .i64 (((X.getD u []).getD (t - 1) (0, 0)).1), .int .i64 (((X.getD u []).getD (t - 1) (0, 0)).2)], 29, true, 2⟩), (2, ⟨[.int .i64 (((X.getD u []).getD t (0, 0)).1), .int .i64 (((X.getD u []).getD t (0, 0)).2)], 29, true, 2⟩), (3, ⟨[.int .i64 (((X.getD u []).getD (t + 1) (0, 0)).1), .int .i64 (((X.getD u []).getD (t + 1) (0, 0)).2)], 29, true, 2⟩), (4, ⟨[.int .i64 (((X.getD j []).getD k (0, 0)).1), .int .i64 (((X.getD j []).getD k (0, 0)).2)], 29, true, 2⟩)] (famR 29 X) ⟨(jJ _ _ _), kK, kK, kK, kK, trivial⟩ (qS _ _) ?_
       exact qP 16244699<|qH<|yW (K2 z11) ⟨(jJ _ _ _), kK, kK, kK, kK, trivial⟩ (qS _ _)
      refine aw_p 8122349 (
       .a 2 5 <| .p (qV true (h5)) <| .a 3 5 <| .p (qV true (h6)) <| .a 4 5 <| .p (qV false (h7)) <| .e 8 5) ?_
      refine wX [(7, .pointer (some ⟨1, 0, none⟩)), (8, .pointer (some ⟨2, 0, none⟩)), (9, .pointer (some ⟨3, 0, none⟩)), (11, .slice (some ⟨(j + 200), 0, none⟩) ((X.getD j []).length) 0), (12, .int .i64 ((k : Nat) : Int)), (13, .pointer (some ⟨4, 0, none⟩)), (69, .slice (some ⟨0, 0, none⟩) X.length 0), (70, .int .i64 ((X.length : Nat) : Int)), (71, .int .i64 ((j : Nat) : Int)), (75, .slice (some ⟨(j + 200), 0, none⟩) ((X.getD j []).length) 0), (76, .int .i64 (((X.getD j []).length : Nat) : Int)), (77, .int .i64 ((k : Nat) : Int)), (78, .bool (decide (((k : Nat) : Int) < (((X.getD j []).length : Nat) : Int)))), (101, .bool false)] [(0, ⟨(hds (· + 200) X), 24, false, 1⟩), (1, ⟨[.int .i64 (((X.getD u []).getD (t - 1) (0, 0)).1), .int .i64 (((X.getD u []).getD (t - 1) (0, 0)).2)], 29, true, 2⟩), (2, ⟨[.int .i64 (((X.getD u []).getD t (0, 0)).1), .int .i64 (((X.getD u []).getD t (0, 0)).2)], 29, true, 2⟩), (3, ⟨[.int .i64 (((X.getD u []).getD (t + 1) (0, 0)).1), .int .i64 (((X.getD u []).getD (t + 1) (0, 0)).2)], 29, true, 2⟩), (4, ⟨[.int .i64 (((X.getD j []).getD k (0, 0)).1), .int .i64 (((X.getD j []).getD k (0, 0)).2)], 29, true, 2⟩)] (famR 29 X) ⟨(jJ _ _ _), kK, kK, kK, kK, trivial⟩ (qS _ _) ?_
      exact qP 16244699<|qH<|yW (K2 z11) ⟨(jJ _ _ _), kK, kK, kK, kK, trivial⟩ (qS _ _)
     refine aw_p 8122349 (
      .a 2 5 <| .p (qV true (h5)) <| .a 3 5 <| .p (qV false (h6)) <| .e 13 5) ?_
     refine wX [(7, .pointer (some ⟨1, 0, none⟩)), (8, .pointer (some ⟨2, 0, none⟩)), (9, .pointer (some ⟨3, 0, none⟩)), (11, .slice (some ⟨(j + 200), 0, none⟩) ((X.getD j []).length) 0), (12, .int .i64 ((k : Nat) : Int)), (13, .pointer (some ⟨4, 0, none⟩)), (69, .slice (some ⟨0, 0, none⟩) X.length 0), (70, .int .i64 ((X.length : Nat) : Int)), (71, .int .i64 ((j : Nat) : Int)), (75, .slice (some ⟨(j + 200), 0, none⟩) ((X.getD j []).length) 0), (76, .int .i64 (((X.getD j []).length : Nat) : Int)), (77, .int .i64 ((k : Nat) : Int)), (78, .bool (decide (((k : Nat) : Int) < (((X.getD j []).length : Nat) : Int)))), (101, .bool false)] [(0, ⟨(hds (· + 200) X), 24, false, 1⟩), (1, ⟨[.int .i64 (((X.getD u []).getD (t - 1) (0, 0)).1), .int .i64 (((X.getD u []).getD (t - 1) (0, 0)).2)], 29, true, 2⟩), (2, ⟨[.int .i64 (((X.getD u []).getD t (0, 0)).1), .int .i64 (((X.getD u []).getD t (0, 0)).2)], 29, true, 2⟩), (3, ⟨[.int .i64 (((X.getD u []).getD (t + 1) (0, 0)).1), .int .i64 (((X.getD u []).getD (t + 1) (0, 0)).2)], 29, true, 2⟩), (4, ⟨[.int .i64 (((X.getD j []).getD k (0, 0)).1), .int .i64 (((X.getD j []).getD k (0, 0)).2)], 29, true, 2⟩)] (famR 29 X) ⟨(jJ _ _ _), kK, kK, kK, kK, trivial⟩ (qS _ _) ?_
     exact qP 16244699<|qH<|yW (K2 z11) ⟨(jJ _ _ _), kK, kK, kK, kK, trivial⟩ (qS _ _)
    refine aw_p 8122349 (
     .a 2 5 <| .p (qV false (h5)) <| .e 17 5) ?_
    refine wX [(7, .pointer (some ⟨1, 0, none⟩)), (8, .pointer (some ⟨2, 0, none⟩)), (9, .pointer (some ⟨3, 0, none⟩)), (11, .slice (some ⟨(j + 200), 0, none⟩) ((X.getD j []).length) 0), (12, .int .i64 ((k : Nat) : Int)), (13, .pointer (some ⟨4, 0, none⟩)), (69, .slice (some ⟨0, 0, none⟩) X.length 0), (70, .int .i64 ((X.length : Nat) : Int)), (71, .int .i64 ((j : Nat) : Int)), (75, .slice (some ⟨(j + 200), 0, none⟩) ((X.getD j []).length) 0), (76, .int .i64 (((X.getD j []).length : Nat) : Int)), (77, .int .i64 ((k : Nat) : Int)), (78, .bool (decide (((k : Nat) : Int) < (((X.getD j []).length : Nat) : Int)))), (101, .bool false)] [(0, ⟨(hds (· + 200) X), 24, false, 1⟩), (1, ⟨[.int .i64 (((X.getD u []).getD (t - 1) (0, 0)).1), .int .i64 (((X.getD u []).getD (t - 1) (0, 0)).2)], 29, true, 2⟩), (2, ⟨[.int .i64 (((X.getD u []).getD t (0, 0)).1), .int .i64 (((X.getD u []).getD t (0, 0)).2)], 29, true, 2⟩), (3, ⟨[.int .i64 (((X.getD u []).getD (t + 1) (0, 0)).1), .int .i64 (((X.getD u []).getD (t + 1) (0, 0)).2)], 29, true, 2⟩), (4, ⟨[.int .i64 (((X.getD j []).getD k (0, 0)).1), .int .i64 (((X.getD j []).getD k (0, 0)).2)], 29, true, 2⟩)] (famR 29 X) ⟨(jJ _ _ _), kK, kK, kK, kK, trivial⟩ (qS _ _) ?_
    exact qP 16244699<|qH<|yW (K2 z11) ⟨(jJ _ _ _), kK, kK, kK, kK, trivial⟩ (qS _ _)
   have h4p : ¬ ((((k : Nat) : Int) < (((X.getD j []).length : Nat) : Int))) := pB h4
   have hke : k = (X.getD j []).length := by omega
   refine q5 2<|qG<|qW (
    .p (qJ (((j : Nat) : Int) + 1) (wrap_i64 oO oO) .i64) <| .e 1 4) ?_
   exact al_wFh (ih1 (j + 1) (show ((j + 1) ≤ X.length) ∧ (Sp.uX (Sp.g2 (X.getD u []) (t - 1)) (Sp.g2 (X.getD u []) t) (Sp.g2 (X.getD u []) (t + 1)) X (j + 1) = true) from ⟨by omega, by (exact Sp.qDE hA (by rw [hke] at hB; exact hB))⟩) (show X.length - (j + 1) < X.length - j from by omega)) ⟨(jJ _ _ _), kK, kK, kK, trivial⟩ (qS _ _)
  have h3p : ¬ ((((j : Nat) : Int) < ((X.length : Nat) : Int))) := pB h3
  have hje : j = X.length := by omega
  exact q5 0<|qG<|aw_e 63 1 4<|qF<|qB [.bool true] (show (.bool true : Value) = (.bool (Sp.mayB X (X.getD u []) t)) from (congrArg Value.bool (show true = (Sp.mayB X (X.getD u []) t) from by (first | exact (Sp.wP aA z41).symm | exact (Sp.vG hjl hkl (Sp.j8 aA)).symm | (refine (Sp.vG hjl hkl (Sp.xL ?_)).symm; simp only [Sp.clA, Sp.eqTo, Sp.g2, *, Bool.true_and, Bool.and_false, Bool.false_and, Bool.or_true, Bool.true_or, Bool.or_false, Bool.false_or, Bool.not_true, Bool.not_false, decide_true, decide_false]; done) | (refine (Sp.vG hjl hkl (Sp.j8 ?_)).symm; simp only [Sp.clC, Sp.eqTo, Sp.g2, *, Bool.true_and, Bool.and_false, Bool.false_and, Bool.or_true, Bool.true_or, Bool.or_false, Bool.false_or, Bool.not_true, Bool.not_false, decide_true, decide_false]; done) | (refine (Sp.wQ ?_).symm; simp only [Sp.mPre, Sp.eqTo, Sp.g2, *, Bool.true_and, Bool.and_false, Bool.false_and, Bool.or_true, Bool.true_or, Bool.or_false, Bool.false_or, Bool.not_true, Bool.not_false, decide_true, decide_false]; done)))))
 rcases Bool.eq_false_or_eq_true ((((((X.getD u []).getD (t - 1) (0, 0)).1) == (((X.getD u []).getD (t + 1) (0, 0)).1)) && (((((X.getD u []).getD (t - 1) (0, 0)).2) == (((X.getD u []).getD (t + 1) (0, 0)).2)) && true))) with h1 | h1
 ·refine aw_d 29 (
   .a 2 4 <| .p (qV true (h1)) <| .e 29 4) ?_
  refine wX [(0, .slice (some ⟨0, 0, none⟩) X.length 0), (6, .bool false), (7, .pointer (some ⟨1, 0, none⟩)), (8, .pointer (some ⟨2, 0, none⟩)), (9, .pointer (some ⟨3, 0, none⟩)), (68, .bool true)] [(0, ⟨(hds (· + 200) X), 24, false, 1⟩), (1, ⟨[.int .i64 (((X.getD u []).getD (t - 1) (0, 0)).1), .int .i64 (((X.getD u []).getD (t - 1) (0, 0)).2)], 29, true, 2⟩), (2, ⟨[.int .i64 (((X.getD u []).getD t (0, 0)).1), .int .i64 (((X.getD u []).getD t (0, 0)).2)], 29, true, 2⟩), (3, ⟨[.int .i64 (((X.getD u []).getD (t + 1) (0, 0)).1), .int .i64 (((X.getD u []).getD (t + 1) (0, 0)).2)], 29, true, 2⟩)] (famR 29 X) ⟨(jJ _ _ _), kK, kK, kK, trivial⟩ (qS _ _) ?_
  exact qR 58<|aw_e 117 1 4<|qF<|qB [.bool false] (show (.bool false : Value) = (.bool (Sp.mayB X (X.getD u []) t)) from (congrArg Value.bool (show false = (Sp.mayB X (X.getD u []) t) from by (first | exact (Sp.wP aA z41).symm | exact (Sp.vG hjl hkl (Sp.j8 aA)).symm | (refine (Sp.vG hjl hkl (Sp.xL ?_)).symm; simp only [Sp.clA, Sp.eqTo, Sp.g2, *, Bool.true_and, Bool.and_false, Bool.false_and, Bool.or_true, Bool.true_or, Bool.or_false, Bool.false_or, Bool.not_true, Bool.not_false, decide_true, decide_false]; done) | (refine (Sp.vG hjl hkl (Sp.j8 ?_)).symm; simp only [Sp.clC, Sp.eqTo, Sp.g2, *, Bool.true_and, Bool.and_false, Bool.false_and, Bool.or_true, Bool.true_or, Bool.or_false, Bool.false_or, Bool.not_true, Bool.not_false, decide_true, decide_false]; done) | (refine (Sp.wQ ?_).symm; simp only [Sp.mPre, Sp.eqTo, Sp.g2, *, Bool.true_and, Bool.and_false, Bool.false_and, Bool.or_true, Bool.true_or, Bool.or_false, Bool.false_or, Bool.not_true, Bool.not_false, decide_true, decide_false]; done)))))
 rcases Bool.eq_false_or_eq_true ((((((X.getD u []).getD 0 (0, 0)).1) == (((X.getD u []).getD ((X.getD u []).length - 1) (0, 0)).1)) && (((((X.getD u []).getD 0 (0, 0)).2) == (((X.getD u []).getD ((X.getD u []).length - 1) (0, 0)).2)) && true))) with h2 | h2
 ·refine aw_d 29 (
   .a 2 4 <| .p (qV false (h1)) <| .a 3 4 <|
   .p (iX 36 41 42 0 0 X.length 1 ((u : Nat) : Int) oO oO) <|
   .p (lD 24 43 0 (0 + (((u : Nat) : Int)).toNat * 1) ⟨(hds (· + 200) X), 24, false, 1⟩ (.slice (some ⟨(u + 200), 0, none⟩) ((X.getD u []).length) 0) z24) <|
   .p (q7 (t := 24) (x := .tmp 44) (y := .const (.int .i64 0)) (k := (u + 200)) (off := 0) (n := ((X.getD u []).length)) (c := 0) (z := 2) (kd := .i64) (j := 0) kK kK kK kK kK oO oO) <|
   .p (lD 29 45 (u + 200) 0 ⟨((X.getD u []).flatMap ptc), 29, false, 2⟩ (.agg #[.int .i64 (((X.getD u []).getD 0 (0, 0)).1), .int .i64 (((X.getD u []).getD 0 (0, 0)).2)]) (qL (j := 0) kK kK oO oO)) <|
   .a 2 4 <| .p (iX 36 47 48 0 0 X.length 1 ((u : Nat) : Int) oO oO) <|
   .p (lD 24 49 0 (0 + (((u : Nat) : Int)).toNat * 1) ⟨(hds (· + 200) X), 24, false, 1⟩ (.slice (some ⟨(u + 200), 0, none⟩) ((X.getD u []).length) 0) z24) <|
   .a 2 4 <| .p (iX 36 51 52 0 0 X.length 1 ((u : Nat) : Int) oO oO) <|
   .p (lD 24 53 0 (0 + (((u : Nat) : Int)).toNat * 1) ⟨(hds (· + 200) X), 24, false, 1⟩ (.slice (some ⟨(u + 200), 0, none⟩) ((X.getD u []).length) 0) z24) <|
   .a 1 4 <| .p (qJ (((X.getD u []).length - 1 : Nat) : Int) ((show (IntKind.wrap .i64 ((((X.getD u []).length : Nat) : Int) - 1)) = (((X.getD u []).length - 1 : Nat) : Int) from ((wrap_i64 oO oO).trans oO))) .i64) <|
   .p (iX 24 50 56 (u + 200) 0 ((X.getD u []).length) 2 (((X.getD u []).length - 1 : Nat) : Int) oO oO) <|
   .p (lD 29 57 (u + 200) (0 + ((((X.getD u []).length - 1 : Nat) : Int)).toNat * 2) ⟨((X.getD u []).flatMap ptc), 29, false, 2⟩ (.agg #[.int .i64 (((X.getD u []).getD ((X.getD u []).length - 1) (0, 0)).1), .int .i64 (((X.getD u []).getD ((X.getD u []).length - 1) (0, 0)).2)]) (qL (j := ((X.getD u []).length - 1)) kK kK oO oO)) <|
   .p (qV true (h2)) <| .a 3 4 <| .p (iX 36 61 62 0 0 X.length 1 ((u : Nat) : Int) oO oO) <|
   .p (lD 24 63 0 (0 + (((u : Nat) : Int)).toNat * 1) ⟨(hds (· + 200) X), 24, false, 1⟩ (.slice (some ⟨(u + 200), 0, none⟩) ((X.getD u []).length) 0) z24) <|
   .e 4 4) ?_
  refine wX [(0, .slice (some ⟨0, 0, none⟩) X.length 0), (6, .bool false), (7, .pointer (some ⟨1, 0, none⟩)), (8, .pointer (some ⟨2, 0, none⟩)), (9, .pointer (some ⟨3, 0, none⟩)), (68, .bool (decide ((((X.getD u []).length : Nat) : Int) < 5)))] [(0, ⟨(hds (· + 200) X), 24, false, 1⟩), (1, ⟨[.int .i64 (((X.getD u []).getD (t - 1) (0, 0)).1), .int .i64 (((X.getD u []).getD (t - 1) (0, 0)).2)], 29, true, 2⟩), (2, ⟨[.int .i64 (((X.getD u []).getD t (0, 0)).1), .int .i64 (((X.getD u []).getD t (0, 0)).2)], 29, true, 2⟩), (3, ⟨[.int .i64 (((X.getD u []).getD (t + 1) (0, 0)).1), .int .i64 (((X.getD u []).getD (t + 1) (0, 0)).2)], 29, true, 2⟩)] (famR 29 X) ⟨(jJ _ _ _), kK, kK, kK, trivial⟩ (qS _ _) ?_
  refine qY 58 59 (decide ((((X.getD u []).length : Nat) : Int) < 5)) (fun h16 => ?_) (fun h16 => ?_)
  ·have h16p : (((((X.getD u []).length : Nat) : Int) < 5)) := pB h16
   exact aw_e 117 1 4<|qF<|qB [.bool false] (show (.bool false : Value) = (.bool (Sp.mayB X (X.getD u []) t)) from (congrArg Value.bool (show false = (Sp.mayB X (X.getD u []) t) from by (first | exact (Sp.wP aA z41).symm | exact (Sp.vG hjl hkl (Sp.j8 aA)).symm | (refine (Sp.vG hjl hkl (Sp.xL ?_)).symm; simp only [Sp.clA, Sp.eqTo, Sp.g2, *, Bool.true_and, Bool.and_false, Bool.false_and, Bool.or_true, Bool.true_or, Bool.or_false, Bool.false_or, Bool.not_true, Bool.not_false, decide_true, decide_false]; done) | (refine (Sp.vG hjl hkl (Sp.j8 ?_)).symm; simp only [Sp.clC, Sp.eqTo, Sp.g2, *, Bool.true_and, Bool.and_false, Bool.false_and, Bool.or_true, Bool.true_or, Bool.or_false, Bool.false_or, Bool.not_true, Bool.not_false, decide_true, decide_false]; done) | (refine (Sp.wQ ?_).symm; simp only [Sp.mPre, Sp.eqTo, Sp.g2, *, Bool.true_and, Bool.and_false, Bool.false_and, Bool.or_true, Bool.true_or, Bool.or_false, Bool.false_or, Bool.not_true, Bool.not_false, decide_true, decide_false]; done)))))
  have h16p : ¬ (((((X.getD u []).length : Nat) : Int) < 5)) := pB h16
  exact qH<|yW (K1 z8) ⟨(jJ _ _ _), kK, kK, kK, trivial⟩ (qS _ _)
 refine aw_d 29 (
  .a 2 4 <| .p (qV false (h1)) <| .a 3 4 <|
  .p (iX 36 41 42 0 0 X.length 1 ((u : Nat) : Int) oO oO) <|
  .p (lD 24 43 0 (0 + (((u : Nat) : Int)).toNat * 1) ⟨(hds (· + 200) X), 24, false, 1⟩ (.slice (some ⟨(u + 200), 0, none⟩) ((X.getD u []).length) 0) z24) <|
  .p (q7 (t := 24) (x := .tmp 44) (y := .const (.int .i64 0)) (k := (u + 200)) (off := 0) (n := ((X.getD u []).length)) (c := 0) (z := 2) (kd := .i64) (j := 0) kK kK kK kK kK oO oO) <|
  .p (lD 29 45 (u + 200) 0 ⟨((X.getD u []).flatMap ptc), 29, false, 2⟩ (.agg #[.int .i64 (((X.getD u []).getD 0 (0, 0)).1), .int .i64 (((X.getD u []).getD 0 (0, 0)).2)]) (qL (j := 0) kK kK oO oO)) <|
  .a 2 4 <| .p (iX 36 47 48 0 0 X.length 1 ((u : Nat) : Int) oO oO) <|
  .p (lD 24 49 0 (0 + (((u : Nat) : Int)).toNat * 1) ⟨(hds (· + 200) X), 24, false, 1⟩ (.slice (some ⟨(u + 200), 0, none⟩) ((X.getD u []).length) 0) z24) <|
  .a 2 4 <| .p (iX 36 51 52 0 0 X.length 1 ((u : Nat) : Int) oO oO) <|
  .p (lD 24 53 0 (0 + (((u : Nat) : Int)).toNat * 1) ⟨(hds (· + 200) X), 24, false, 1⟩ (.slice (some ⟨(u + 200), 0, none⟩) ((X.getD u []).length) 0) z24) <|
  .a 1 4 <| .p (qJ (((X.getD u []).length - 1 : Nat) : Int) ((show (IntKind.wrap .i64 ((((X.getD u []).length : Nat) : Int) - 1)) = (((X.getD u []).length - 1 : Nat) : Int) from ((wrap_i64 oO oO).trans oO))) .i64) <|
  .p (iX 24 50 56 (u + 200) 0 ((X.getD u []).length) 2 (((X.getD u []).length - 1 : Nat) : Int) oO oO) <|
  .p (lD 29 57 (u + 200) (0 + ((((X.getD u []).length - 1 : Nat) : Int)).toNat * 2) ⟨((X.getD u []).flatMap ptc), 29, false, 2⟩ (.agg #[.int .i64 (((X.getD u []).getD ((X.getD u []).length - 1) (0, 0)).1), .int .i64 (((X.getD u []).getD ((X.getD u []).length - 1) (0, 0)).2)]) (qL (j := ((X.getD u []).length - 1)) kK kK oO oO)) <|
  .p (qV false (h2)) <| .e 9 4) ?_
 refine wX [(0, .slice (some ⟨0, 0, none⟩) X.length 0), (6, .bool false), (7, .pointer (some ⟨1, 0, none⟩)), (8, .pointer (some ⟨2, 0, none⟩)), (9, .pointer (some ⟨3, 0, none⟩)), (68, .bool false)] [(0, ⟨(hds (· + 200) X), 24, false, 1⟩), (1, ⟨[.int .i64 (((X.getD u []).getD (t - 1) (0, 0)).1), .int .i64 (((X.getD u []).getD (t - 1) (0, 0)).2)], 29, true, 2⟩), (2, ⟨[.int .i64 (((X.getD u []).getD t (0, 0)).1), .int .i64 (((X.getD u []).getD t (0, 0)).2)], 29, true, 2⟩), (3, ⟨[.int .i64 (((X.getD u []).getD (t + 1) (0, 0)).1), .int .i64 (((X.getD u []).getD (t + 1) (0, 0)).2)], 29, true, 2⟩)] (famR 29 X) ⟨(jJ _ _ _), kK, kK, kK, trivial⟩ (qS _ _) ?_
 exact qP 59<|qH<|yW (K1 z8) ⟨(jJ _ _ _), kK, kK, kK, trivial⟩ (qS _ _)
open Go Go.Proofs
theorem rU (ps : List (Int × Int)) (a n : Nat) (hn : a + n ≤ ps.length) (hz : ps.length ≤ 4096) (x y : Int) :
    AC Try.prog 59 1 ([.slice (some ⟨0, (0 + a * 2), none⟩) n 0, .agg #[.int .i64 x, .int .i64 y]]) [(0, ⟨(ps.flatMap ptc), 29, false, 2⟩)] (.int .i64 (Sp.ixF (Sp.eqTo (x, y)) (Sp.subL ps a n) 0)) [] := by
 refine qK Try.func59 (fun w0 W pin => ?_)
 refine aw_e 3 2 1<|qD 6 7<|aw_e 13 3 2<|qM 0 27<|q6 55<|al_w _ _ (jS (fun i : Nat => (fun (i : Nat) => mkSt 1 [(0, .slice (some ⟨0, (0 + a * 2), none⟩) n 0), (3, .pointer (some ⟨1, 0, none⟩)), (7, .int .i64 ((n : Nat) : Int)), (8, .int .i64 ((i : Nat) : Int))] [(0, ⟨(ps.flatMap ptc), 29, false, 2⟩), (1, ⟨[.int .i64 x, .int .i64 y], 29, true, 2⟩)]) i) (fun i : Nat => (fun (i : Nat) => (i ≤ n) ∧ (Sp.ixF (Sp.eqTo (x, y)) (Sp.subL ps a n) i = Sp.ixF (Sp.eqTo (x, y)) (Sp.subL ps a n) 0)) i) (fun i : Nat => (fun (i : Nat) => n - i) i) (fun i hi1 ih1 => ?_) 0 (show (0 ≤ n) ∧ (Sp.ixF (Sp.eqTo (x, y)) (Sp.subL ps a n) 0 = Sp.ixF (Sp.eqTo (x, y)) (Sp.subL ps a n) 0) from ⟨by omega, by rfl⟩)) (hc := z15)
 obtain ⟨i, hv1⟩ : ∃ z, z = i := ⟨i, rfl⟩; subst hv1
 have hi1' : (i ≤ n) ∧ (Sp.ixF (Sp.eqTo (x, y)) (Sp.subL ps a n) i = Sp.ixF (Sp.eqTo (x, y)) (Sp.subL ps a n) 0) := hi1
 obtain ⟨hi, hh⟩ := hi1'
 show AL _ _ _ (mkSt _ _ _) _
 refine qE<|aw_e 111 1 2<|qD 222 223<|qY 444 445 (decide (((i : Nat) : Int) < ((n : Nat) : Int))) (fun h1 => ?_) (fun h1 => ?_)
 ·have h1p : ((((i : Nat) : Int) < ((n : Nat) : Int))) := pB h1
  have hil : i < n := by omega
  refine qH<|qD 446 447<|qM 1 893<|aw_e 1787 2 2<|aw_d 3575 (
   .a 3 2 <| .p (iX 24 12 13 0 (0 + a * 2) n 2 ((i : Nat) : Int) oO oO) <|
   .p (lD 29 14 0 ((0 + a * 2) + (((i : Nat) : Int)).toNat * 2) ⟨(ps.flatMap ptc), 29, false, 2⟩ (.agg #[.int .i64 ((ps.getD (a + i) (0, 0)).1), .int .i64 ((ps.getD (a + i) (0, 0)).2)]) (qL (j := (a + i)) kK kK oO oO)) <|
   .p (qV ((x == ((ps.getD (a + i) (0, 0)).1)) && ((y == ((ps.getD (a + i) (0, 0)).2)) && true)) (rfl)) <| .nil _ _) ?_
  refine qY 7150 7151 ((x == ((ps.getD (a + i) (0, 0)).1)) && ((y == ((ps.getD (a + i) (0, 0)).2)) && true)) (fun h2 => ?_) (fun h2 => ?_)
  ·have h2p : ((x = ((ps.getD (a + i) (0, 0)).1) ∧ y = ((ps.getD (a + i) (0, 0)).2))) := pB h2
   exact aw_e 14301 2 2<|qF<|qB [.int .i64 ((i : Nat) : Int)] (show (.int .i64 ((i : Nat) : Int) : Value) = (.int .i64 (Sp.ixF (Sp.eqTo (x, y)) (Sp.subL ps a n) 0)) from (congrArg (Value.int .i64) (show ((i : Nat) : Int) = (Sp.ixF (Sp.eqTo (x, y)) (Sp.subL ps a n) 0) from by (first | exact (by rw [← hh, Sp.nH hn hil aA]) | exact (by rw [← hh, Sp.nJ hn hge])))))
  have h2p : ¬ ((x = ((ps.getD (a + i) (0, 0)).1) ∧ y = ((ps.getD (a + i) (0, 0)).2))) := pB h2
  refine qH<|qW (
   .p (qJ (((i : Nat) : Int) + 1) (wrap_i64 oO oO) .i64) <| .e 1 2) ?_
  exact al_w _ _ (ih1 (i + 1) (show ((i + 1) ≤ n) ∧ (Sp.ixF (Sp.eqTo (x, y)) (Sp.subL ps a n) (i + 1) = Sp.ixF (Sp.eqTo (x, y)) (Sp.subL ps a n) 0) from ⟨by omega, by (rw [← hh]; exact Sp.ixS_no hn hil aA)⟩) (show n - (i + 1) < n - i from by omega)) (hc := z15)
 have h1p : ¬ ((((i : Nat) : Int) < ((n : Nat) : Int))) := pB h1
 have hge : ¬ i < n := by omega
 exact q5 0<|qG<|aw_e 15 1 2<|qF<|qB [.int .i64 (-1)] (show (.int .i64 (-1) : Value) = (.int .i64 (Sp.ixF (Sp.eqTo (x, y)) (Sp.subL ps a n) 0)) from (congrArg (Value.int .i64) (show (-1) = (Sp.ixF (Sp.eqTo (x, y)) (Sp.subL ps a n) 0) from by (first | exact (by rw [← hh, Sp.nH hn hil aA]) | exact (by rw [← hh, Sp.nJ hn hge])))))
end Go.Proofs.Ytadifmimefmcnaa.Am
