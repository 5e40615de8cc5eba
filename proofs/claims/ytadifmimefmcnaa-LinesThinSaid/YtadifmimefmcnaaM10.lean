import Derived.Test.YtadifmimefmcnaaProg
import Derived.Test.YtadifmimefmcnaaM2
import Derived.Test.YtadifmimefmcnaaM8
import Derived.Test.YtadifmimefmcnaaM9
import Derived.Test.YtadifmimefmcnaaM3
import Derived.Test.YtadifmimefmcnaaM4
import Derived.Test.YtadifmimefmcnaaM0
set_option maxHeartbeats 4000000
set_option linter.unusedVariables false
set_option linter.unusedSimpArgs false
namespace Go.Proofs.Ytadifmimefmcnaa.Am
open Go Go.Proofs
theorem keep_ok (X : List Row) (tol : Int) (hc : Sp.lnsE X = 0) :
    AC Try.prog 25 (1 + X.length) [.slice (some ⟨0, 0, none⟩) X.length 0, .int .i64 tol] (famP 24 29 X) (.tuple #[.slice (some ⟨1 + X.length, 0, none⟩) (Sp.gV tol X X.length).length 0, .int .i64 0]) (famQ 24 29 (1 + X.length) (Sp.gV tol X X.length)) := by
 obtain ⟨hx1, ho, hx2, hlin⟩ := Sp.p7 hc; have hsz : ∀ i, i < X.length → 2 ≤ (X.getD i []).length ∧ (X.getD i []).length ≤ 200 := (fun i hi => ⟨(Sp.y7 (ho i hi)).1, (Sp.y7 (ho i hi)).2.1⟩)
 refine acK 1 dD Try.func25 ⟨.slice _ _ _ _ rfl, qT rfl, trivial⟩ (fun w0 W pin => ?_)
 refine aw_e 3 2 1<|qD 6 7<|aw_p 13 (
  .a 1 1 <|
  .p (wF 0 (· + 200) #[.tmp 17] #[36] [.slice (some ⟨0, 0, none⟩) X.length 0] ((by have h := dQ X (fun i => by by_cases hi : i < X.length; exact Nat.le_trans (hsz i hi).2 dD; rw [List.getD_eq_getElem?_getD, List.getElem?_eq_none_iff.2 oO]; simp) oO; rw [hc] at h; exact h)) ⟨24, false, by kernel_rfl⟩ (fun j _ => ⟨29, false, by kernel_rfl⟩) (show RenL (famS 0 (· + 200)) (· < 1 + X.length) [.slice (some ⟨0, 0, none⟩) X.length 0] [.slice (some ⟨0, 0, none⟩) X.length 0] from (.cons (.slice 0 _ _ _ _ z43) .nil))) <|
  .e 1 1) ?_
 refine aw_e 27 2 1<|qP 55<|qH<|yL (qE9 (X := X) (TP := 29) (TH := 24) (T := [(0, .slice (some ⟨0, 0, none⟩) X.length 0), (1, .int .i64 tol)]) rfl kK kK kK z47) ?_
 refine aw_p 15 (
  .a 2 1 <|
  .p (vS (kl := .i64) (kc := .i64) (n' := ((X.length : Nat) : Int)) (c' := ((X.length : Nat) : Int)) 1 24 1 24 X.length X.length (.slice none 0 0) (hdc nB X 0) kK kK (by rw [hdc_0]; exact flat_nils _) ((made_nils _).trans (hdc_0 nB X).symm) rfl rfl (Nat.le_refl _) oO oO) <|
  .e 1 2) ?_
 refine qD 30 31<|aw_e 61 3 2<|qM 0 123<|q6 247<|al_wFh (jS (fun i : Nat => (fun (i : Nat) => mkF 1 [(0, .slice (some ⟨0, 0, none⟩) X.length 0), (1, .int .i64 tol), (7, .slice (some ⟨1, 0, none⟩) X.length 0), (25, .slice (some ⟨0, 0, none⟩) X.length 0), (26, .int .i64 ((X.length : Nat) : Int)), (27, .int .i64 ((i : Nat) : Int))] [(0, ⟨(hds nA X), 24, false, 1⟩), (1, ⟨(hdc nB X i), 24, true, 1⟩)] (fam2 29 X (ownB 29 (X.take i)))) i) (fun i : Nat => (fun (i : Nat) => (i ≤ X.length)) i) (fun i : Nat => (fun (i : Nat) => X.length - i) i) (fun i hi1 ih1 => ?_) 0 (show (0 ≤ X.length) from by omega)) ⟨(jL j1 _ _ _), (hdc_cl j5 _ _ _ _), trivial⟩ (jH (gU _ _))
 obtain ⟨i, hv1⟩ : ∃ z, z = i := ⟨i, rfl⟩; subst hv1
 have hi1' : (i ≤ X.length) := hi1
 have hi : i ≤ X.length := hi1'
 show AL _ _ _ (mkF _ _ _ _) _
 refine qE<|aw_e 495 1 2<|qD 990 991<|qY 1980 1981 (decide (((i : Nat) : Int) < ((X.length : Nat) : Int))) (fun h1 => ?_) (fun h1 => ?_)
 ·have h1p : ((((i : Nat) : Int) < ((X.length : Nat) : Int))) := pB h1
  have hil : i < X.length := oO; have zi := hsz i hil
  refine qH<|qD 1982 1983<|qM 1 3965<|aw_p 7931 (
   .a 1 2 <| .p (iX 36 25 27 0 0 X.length 1 ((i : Nat) : Int) oO oO) <|
   .p (lD 24 30 0 (0 + (((i : Nat) : Int)).toNat * 1) ⟨(hds nA X), 24, false, 1⟩ (.slice (some ⟨(nA i), 0, none⟩) ((X.getD i []).length) 0) (by rw [show (0 + (((i : Nat) : Int)).toNat * 1) = i from oO]; exact cY kK kK oO)) <|
   .e 2 2) ?_
  refine tJ 8 (nA i) 9 ((X.getD i []).length) ⟨((X.getD i []).flatMap ptc), 29, false, 2⟩ [(0, .slice (some ⟨0, 0, none⟩) X.length 0), (1, .int .i64 tol), (7, .slice (some ⟨1, 0, none⟩) X.length 0), (8, .int .i64 ((i : Nat) : Int)), (25, .slice (some ⟨0, 0, none⟩) X.length 0), (26, .int .i64 ((X.length : Nat) : Int)), (27, .int .i64 ((i : Nat) : Int)), (28, .bool (decide (((i : Nat) : Int) < ((X.length : Nat) : Int))))] [(0, ⟨(hds nA X), 24, false, 1⟩), (1, ⟨(hdc nB X i), 24, true, 1⟩)] (fam2 29 X (ownB 29 (X.take i))) (Eq.trans (b := (fam2 29 X (ownB 29 (X.take i))) (nA i)) kK (gG _ _ _ _)) (qA _) ⟨(jL j1 _ _ _), (hdc_cl j5 _ _ _ _), trivial⟩ (jH (gU _ _)) ?_
  refine qW (
   .a 3 9 <|
   .p (cB #[.tmp 34] #[24] [.slice (some ⟨8, 0, none⟩) ((X.getD i []).length) 0] 1 [(8, ⟨((X.getD i []).flatMap ptc), 29, false, 2⟩)] [(9, ⟨((X.getD i []).flatMap ptc), 29, true, 2⟩)] (.slice (some ⟨9, 0, none⟩) ((X.getD i []).length) 0) [8, 9] (clone_ro (X.getD i []) oO oO) (.cons (.slice _ _ _ _ _ dD) .nil) ⟨rfl, ⟨rfl, rfl, rfl, (.flats (qA _))⟩, trivial⟩ ⟨rfl, ⟨rfl, rfl, rfl, (.flats (qA _))⟩, trivial⟩ (.slice _ _ _ _ _ dD)) <|
   .p (iX 36 32 33 1 0 X.length 1 ((i : Nat) : Int) oO oO) <|
   .p (j4 (t := 24) (x := .tmp 36) (y := .tmp 35) (k := 1) (off := (0 + (((i : Nat) : Int)).toNat * 1)) (b := ⟨(hdc nB X i), 24, true, 1⟩) (v := .slice (some ⟨9, 0, none⟩) ((X.getD i []).length) 0) (cells := ((hdc nB X i).set i (.slice (some ⟨9, 0, none⟩) ((X.getD i []).length) 0))) kK kK kK kK kK kK kK (Nat.ble_eq_true_of_le (by show _ + 1 ≤ (hdc nB X i).length; rw [hdc_len]; omega)) (by rw [show (0 + (((i : Nat) : Int)).toNat * 1) = i from oO]; rfl)) <| .nil _ _) ?_
  refine qW (
   .p (qJ (((i : Nat) : Int) + 1) (wrap_i64 oO oO) .i64) <| .e 1 10) ?_
  refine wZ (qEA (TH := 24) (K := 1) (q := 9) (i := i) (X := X) (TP := 29) (T := [(0, .slice (some ⟨0, 0, none⟩) X.length 0), (1, .int .i64 tol), (7, .slice (some ⟨1, 0, none⟩) X.length 0), (25, .slice (some ⟨0, 0, none⟩) X.length 0), (26, .int .i64 ((X.length : Nat) : Int)), (27, .int .i64 (((i : Nat) : Int) + 1))]) rfl ⟨by decide, by decide⟩ ⟨by decide, by decide, by decide⟩ hil kK kK kK kK kK z47) ?_
  exact al_wFh (ih1 (i + 1) (show ((i + 1) ≤ X.length) from by omega) (show X.length - (i + 1) < X.length - i from by omega)) ⟨(jL j1 _ _ _), (hdc_cl j5 _ _ _ _), trivial⟩ (jH (gU _ _))
 have h1p : ¬ ((((i : Nat) : Int) < ((X.length : Nat) : Int))) := pB h1
 have hie : i = X.length := by omega
 refine q5 0<|qG ?_
 subst hie
 refine wX [(0, .slice (some ⟨0, 0, none⟩) X.length 0), (1, .int .i64 tol), (7, .slice (some ⟨1, 0, none⟩) X.length 0)] [(0, ⟨(hds nA X), 24, false, 1⟩), (1, ⟨(hds nB X), 24, true, 1⟩)] (fam2 29 X (ownB 29 X)) ⟨(jL j1 _ _ _), (jL j5 _ _ _), trivial⟩ (jH (gU _ _)) ?_ kK (by rw [← hdc_full nB X]; kernel_rfl) (fun j => by rw [show ownB 29 X = ownB 29 (X.take X.length) from by rw [List.take_length]]; kernel_rfl)
 refine qD 62 63<|aw_e 125 3 2<|qM 2 251<|q6 503<|al_wFh (jS (fun i : Nat × List Row => (fun (u : Nat) (N : List Row) => mkF 1 [(1, .int .i64 tol), (7, .slice (some ⟨1, 0, none⟩) X.length 0), (38, .slice (some ⟨0, 0, none⟩) X.length 0), (39, .int .i64 ((X.length : Nat) : Int)), (40, .int .i64 ((u : Nat) : Int))] [(0, ⟨(hds nA X), 24, false, 1⟩), (1, ⟨(hds nB N), 24, true, 1⟩)] (fam2 29 X (ownB 29 N))) i.1 i.2) (fun i : Nat × List Row => (fun (u : Nat) (N : List Row) => (u ≤ X.length) ∧ (Sp.KR tol X u N)) i.1 i.2) (fun i : Nat × List Row => (fun (u : Nat) (N : List Row) => X.length - u) i.1 i.2) (fun i hi2 ih2 => ?_) (0, X) (show (0 ≤ X.length) ∧ (Sp.KR tol X 0 X) from ⟨by omega, by (exact Sp.KR.of hc oO rfl)⟩)) ⟨(jL j1 _ _ _), (jL j5 _ _ _), trivial⟩ (jH (gU _ _))
 obtain ⟨u, N⟩ := i
 have hi2' : (u ≤ X.length) ∧ (Sp.KR tol X u N) := hi2
 obtain ⟨hi, hR⟩ := hi2'
 show AL _ _ _ (mkF _ _ _ _) _
 have hNl : N.length = X.length := hR.len
 refine qE<|aw_e 1007 1 2<|qD 2014 2015<|qY 4028 4029 (decide (((u : Nat) : Int) < ((X.length : Nat) : Int))) (fun h2 => ?_) (fun h2 => ?_)
 ·have h2p : ((((u : Nat) : Int) < ((X.length : Nat) : Int))) := pB h2
  have hux : u < X.length := oO; have hul : u < N.length := oO; have zu := hsz u hux; have hfx : Sp.Few 1048576 (X.getD u []) := Sp.dG ho u
  refine qH<|qD 4030 4031<|qM 3 8061<|yL (keep_in (TH := 24) (K := 1) (q := 7) (i := u) (N := N) (X := X) (TP := 29) (T := [(1, .int .i64 tol), (7, .slice (some ⟨1, 0, none⟩) X.length 0), (38, .slice (some ⟨0, 0, none⟩) X.length 0), (39, .int .i64 ((X.length : Nat) : Int)), (40, .int .i64 ((u : Nat) : Int))]) rfl ⟨by decide, by decide⟩ ⟨by decide, by decide, by decide⟩ hul kK kK kK kK z47) ?_
  refine aw_p 16123 (
   .a 1 9 <| .p (iX 36 38 40 0 0 X.length 1 ((u : Nat) : Int) oO oO) <|
   .p (lD 24 43 0 (0 + (((u : Nat) : Int)).toNat * 1) ⟨(hds nA X), 24, false, 1⟩ (.slice (some ⟨(nA u), 0, none⟩) ((X.getD u []).length) 0) z24) <|
   .e 2 9) ?_
  refine tJ 8 (nA u) 11 ((X.getD u []).length) ⟨((X.getD u []).flatMap ptc), 29, false, 2⟩ [(1, .int .i64 tol), (7, .slice (some ⟨1, 0, none⟩) X.length 0), (10, .int .i64 ((u : Nat) : Int)), (38, .slice (some ⟨0, 0, none⟩) X.length 0), (39, .int .i64 ((X.length : Nat) : Int)), (40, .int .i64 ((u : Nat) : Int))] [(0, ⟨(hds nA X), 24, false, 1⟩), (1, ⟨(hds (n7 7 u) N), 24, true, 1⟩), (7, ⟨((N.getD u []).flatMap ptc), 29, true, 2⟩)] (fam2 29 X (ownX 29 N u)) (Eq.trans (b := (fam2 29 X (ownX 29 N u)) (nA u)) kK (gG _ _ _ _)) (qA _) ⟨(jL j1 _ _ _), (x4 kK _), (vT _ _ _), trivial⟩ (jH (gT _ _ _)) ?_
  refine aw_e 32247 1 9<|aw_e 64495 1 9 ?_
  have hg : N.getD u [] = (X.getD u []) := hR.same u (Nat.le_refl u); have hy0 : ([Sp.g2 (X.getD u []) 0] ++ (X.getD u []).drop (1)) = (X.getD u []) := Sp.keep_y0 oO; have hn0 : (N.set u ([Sp.g2 (X.getD u []) 0] ++ (X.getD u []).drop (1))) = N := Sp.keep_n0 hul (hg.trans hy0.symm)
  refine wX [(1, .int .i64 tol), (7, .slice (some ⟨1, 0, none⟩) X.length 0), (10, .int .i64 ((u : Nat) : Int)), (11, .slice (some ⟨8, 0, none⟩) ((X.getD u []).length) 0), (12, .int .i64 0), (13, .int .i64 1), (38, .slice (some ⟨0, 0, none⟩) X.length 0), (39, .int .i64 ((X.length : Nat) : Int)), (40, .int .i64 ((u : Nat) : Int))] [(0, ⟨(hds nA X), 24, false, 1⟩), (1, ⟨(hds (n7 7 u) (N.set u ([Sp.g2 (X.getD u []) 0] ++ (X.getD u []).drop (1)))), 24, true, 1⟩), (7, ⟨(([Sp.g2 (X.getD u []) 0] ++ (X.getD u []).drop (1)).flatMap ptc), 29, true, 2⟩), (8, ⟨((X.getD u []).flatMap ptc), 29, false, 2⟩)] (fam2 29 X (ownX 29 N u)) ⟨(jL j1 _ _ _), (x4 kK _), (vT _ _ _), (vT _ _ _), trivial⟩ (jH (gT _ _ _)) ?_ kK (by rw [hn0, hy0, ← hg]; kernel_rfl)
  refine qM 4 128991<|q6 257983<|al_wFh (jS (fun i : List (Int × Int) × Nat × Nat => (fun (kl : List (Int × Int)) (a : Nat) (f : Nat) => mkF 1 [(1, .int .i64 tol), (7, .slice (some ⟨1, 0, none⟩) X.length 0), (10, .int .i64 ((u : Nat) : Int)), (11, .slice (some ⟨8, 0, none⟩) ((X.getD u []).length) 0), (12, .int .i64 ((a : Nat) : Int)), (13, .int .i64 ((kl.length : Nat) : Int)), (38, .slice (some ⟨0, 0, none⟩) X.length 0), (39, .int .i64 ((X.length : Nat) : Int)), (40, .int .i64 ((u : Nat) : Int))] [(0, ⟨(hds nA X), 24, false, 1⟩), (1, ⟨(hds (n7 7 u) (N.set u (kl ++ (X.getD u []).drop f))), 24, true, 1⟩), (7, ⟨((kl ++ (X.getD u []).drop f).flatMap ptc), 29, true, 2⟩), (8, ⟨((X.getD u []).flatMap ptc), 29, false, 2⟩)] (fam2 29 X (ownX 29 N u))) i.1 i.2.1 i.2.2) (fun i : List (Int × Int) × Nat × Nat => (fun (kl : List (Int × Int)) (a : Nat) (f : Nat) => (Sp.KI tol N u (X.getD u []) kl a f) ∧ (∀ p, p ∈ kl → p ∈ (X.getD u [])) ∧ (Sp.kp tol N u (X.getD u []) ((X.getD u []).length + 1 - f) kl a f = Sp.kp tol N u (X.getD u []) (X.getD u []).length [Sp.g2 (X.getD u []) 0] 0 1)) i.1 i.2.1 i.2.2) (fun i : List (Int × Int) × Nat × Nat => (fun (kl : List (Int × Int)) (a : Nat) (f : Nat) => (X.getD u []).length - f) i.1 i.2.1 i.2.2) (fun i hi3 ih3 => ?_) (([Sp.g2 (X.getD u []) 0]), 0, 1) (show (Sp.KI tol N u (X.getD u []) ([Sp.g2 (X.getD u []) 0]) 0 1) ∧ (∀ p, p ∈ ([Sp.g2 (X.getD u []) 0]) → p ∈ (X.getD u [])) ∧ (Sp.kp tol N u (X.getD u []) ((X.getD u []).length + 1 - 1) ([Sp.g2 (X.getD u []) 0]) 0 1 = Sp.kp tol N u (X.getD u []) (X.getD u []).length [Sp.g2 (X.getD u []) 0] 0 1) from ⟨by (exact Sp.KI.begin hR hul), by (intro p hp; simp only [List.mem_cons, List.not_mem_nil, or_false] at hp; subst hp; exact Sp.qB9 oO), by (exact Sp.kp_init)⟩)) ⟨(jL j1 _ _ _), (x4 kK _), (vT _ _ _), (vT _ _ _), trivial⟩ (jH (gT _ _ _))
  obtain ⟨kl, a, f⟩ := i
  have hi3' : (Sp.KI tol N u (X.getD u []) kl a f) ∧ (∀ p, p ∈ kl → p ∈ (X.getD u [])) ∧ (Sp.kp tol N u (X.getD u []) ((X.getD u []).length + 1 - f) kl a f = Sp.kp tol N u (X.getD u []) (X.getD u []).length [Sp.g2 (X.getD u []) 0] 0 1) := hi3
  obtain ⟨hK, hM, hE⟩ := hi3'
  show AL _ _ _ (mkF _ _ _ _) _
  have hyl : (kl ++ (X.getD u []).drop f).length = kl.length + ((X.getD u []).length - f) := (by simp)
  have kfl := hK.fl; have kuf := hK.uf; have kkf := hK.kf; have kk1 := hK.k1
  refine qE<|qD 515966 515967<|aw_p 1031933 (
   .a 3 9 <| .p (iX 36 46 47 1 0 X.length 1 ((u : Nat) : Int) oO oO) <|
   .p (lD 24 48 1 (0 + (((u : Nat) : Int)).toNat * 1) ⟨(hds (n7 7 u) (N.set u (kl ++ (X.getD u []).drop f))), 24, true, 1⟩ (.slice (some ⟨7, 0, none⟩) ((kl ++ (X.getD u []).drop f).length) 0) z26) <|
   .a 1 9 <| .p (qJ ((((kl ++ (X.getD u []).drop f).length : Nat) : Int) - 1) (wrap_i64 oO oO) .i64) <| .e 1 9) ?_
  refine qY 2063866 2063867 (decide (((kl.length : Nat) : Int) < ((((kl ++ (X.getD u []).drop f).length : Nat) : Int) - 1))) (fun h3 => ?_) (fun h3 => ?_)
  ·have h3p : ((((kl.length : Nat) : Int) < ((((kl ++ (X.getD u []).drop f).length : Nat) : Int) - 1))) := pB h3
   have hf : f + 1 < (X.getD u []).length := by omega
   refine qH<|qM 5 1031935<|aw_p 2063871 (
    .a 2 9 <| .p (iX 36 53 54 1 0 X.length 1 ((u : Nat) : Int) oO oO) <|
    .p (lD 24 55 1 (0 + (((u : Nat) : Int)).toNat * 1) ⟨(hds (n7 7 u) (N.set u (kl ++ (X.getD u []).drop f))), 24, true, 1⟩ (.slice (some ⟨7, 0, none⟩) ((kl ++ (X.getD u []).drop f).length) 0) z26) <|
    .a 1 9 <|
    .p (iX 24 56 57 7 0 ((kl ++ (X.getD u []).drop f).length) 2 ((kl.length : Nat) : Int) oO oO) <|
    .p (lD 29 58 7 (0 + (((kl.length : Nat) : Int)).toNat * 2) ⟨((kl ++ (X.getD u []).drop f).flatMap ptc), 29, true, 2⟩ (.agg #[.int .i64 (((kl ++ (X.getD u []).drop f).getD kl.length (0, 0)).1), .int .i64 (((kl ++ (X.getD u []).drop f).getD kl.length (0, 0)).2)]) (qL (j := kl.length) kK kK oO oO)) <|
    .e 2 9) ?_
   refine aw_d 4127743 (
    .a 1 10 <| .p (qJ ((a + 1 : Nat) : Int) ((show (IntKind.wrap .i64 (((a : Nat) : Int) + 1)) = ((a + 1 : Nat) : Int) from ((wrap_i64 oO oO).trans oO))) .i64) <| .a 2 10 <|
    .p (qJ ((a + 1 : Nat) : Int) ((show (IntKind.wrap .i64 (((a : Nat) : Int) + 1)) = ((a + 1 : Nat) : Int) from ((wrap_i64 oO oO).trans oO))) .i64) <|
    .p (jT (v' := .slice (some ⟨8, (0 + (a + 1) * 2), none⟩) (((X.getD u []).length) - (a + 1)) 0) (jN (t := 24) (x := .tmp 62) (lo := some (.tmp 64)) (hi := none) (k := 8) (off := 0) (n := ((X.getD u []).length)) (c := 0) (z := 2) (l := ((a + 1 : Nat) : Int)) (h := ((((X.getD u []).length) : Nat) : Int)) (m := (((X.getD u []).length) - (a + 1))) (b := ⟨((X.getD u []).flatMap ptc), 29, false, 2⟩) kK kK kK kK kK kK kK kK oO oO oO oO) kK) <|
    .a 1 10 <|
    .p (wE (n' := ((f - (a + 1) : Nat) : Int)) (yJ [8] #[.tmp 65, .tmp 66] #[24, 29] [.slice (some ⟨8, (0 + (a + 1) * 2), none⟩) (((X.getD u []).length) - (a + 1)) 0, .agg #[.int .i64 (((kl ++ (X.getD u []).drop f).getD kl.length (0, 0)).1), .int .i64 (((kl ++ (X.getD u []).drop f).getD kl.length (0, 0)).2)]] [(29, false)] (rU (X.getD u []) (a + 1) (((X.getD u []).length) - (a + 1)) oO oO (((kl ++ (X.getD u []).drop f).getD kl.length (0, 0)).1) (((kl ++ (X.getD u []).drop f).getD kl.length (0, 0)).2)) (.cons (.slice _ _ _ _ _ dD) (.cons (.flatB kK) .nil)) ⟨⟨rfl, qA _⟩, trivial⟩) (Sp.keep_ix1 hR.lines hul (hR.same u (Nat.le_refl u)) kuf hf)) <|
    .p (qJ ((f : Nat) : Int) ((show (IntKind.wrap .i64 (((a + 1 : Nat) : Int) + ((f - (a + 1) : Nat) : Int))) = ((f : Nat) : Int) from ((wrap_i64 oO oO).trans oO))) .i64) <| .e 1 10) ?_
   refine aw_d 8255487 (
    .a 1 10 <| .p (qJ ((f + 1 : Nat) : Int) ((show (IntKind.wrap .i64 (((f : Nat) : Int) + 1)) = ((f + 1 : Nat) : Int) from ((wrap_i64 oO oO).trans oO))) .i64) <| .a 2 10 <|
    .p (qJ ((f + 1 : Nat) : Int) ((show (IntKind.wrap .i64 (((f : Nat) : Int) + 1)) = ((f + 1 : Nat) : Int) from ((wrap_i64 oO oO).trans oO))) .i64) <|
    .p (jT (v' := .slice (some ⟨8, (0 + (f + 1) * 2), none⟩) (((X.getD u []).length) - (f + 1)) 0) (jN (t := 24) (x := .tmp 71) (lo := some (.tmp 73)) (hi := none) (k := 8) (off := 0) (n := ((X.getD u []).length)) (c := 0) (z := 2) (l := ((f + 1 : Nat) : Int)) (h := ((((X.getD u []).length) : Nat) : Int)) (m := (((X.getD u []).length) - (f + 1))) (b := ⟨((X.getD u []).flatMap ptc), 29, false, 2⟩) kK kK kK kK kK kK kK kK oO oO oO oO) kK) <|
    .a 2 10 <| .p (iX 36 75 76 1 0 X.length 1 ((u : Nat) : Int) oO oO) <|
    .p (lD 24 77 1 (0 + (((u : Nat) : Int)).toNat * 1) ⟨(hds (n7 7 u) (N.set u (kl ++ (X.getD u []).drop f))), 24, true, 1⟩ (.slice (some ⟨7, 0, none⟩) ((kl ++ (X.getD u []).drop f).length) 0) z26) <|
    .a 1 10 <| .p (qJ ((kl.length + 1 : Nat) : Int) ((show (IntKind.wrap .i64 (((kl.length : Nat) : Int) + 1)) = ((kl.length + 1 : Nat) : Int) from ((wrap_i64 oO oO).trans oO))) .i64) <|
    .p (iX 24 78 80 7 0 ((kl ++ (X.getD u []).drop f).length) 2 ((kl.length + 1 : Nat) : Int) oO oO) <|
    .p (lD 29 81 7 (0 + (((kl.length + 1 : Nat) : Int)).toNat * 2) ⟨((kl ++ (X.getD u []).drop f).flatMap ptc), 29, true, 2⟩ (.agg #[.int .i64 (((kl ++ (X.getD u []).drop f).getD (kl.length + 1) (0, 0)).1), .int .i64 (((kl ++ (X.getD u []).drop f).getD (kl.length + 1) (0, 0)).2)]) (qL (j := (kl.length + 1)) kK kK oO oO)) <|
    .p (wE (n' := ((0 : Nat) : Int)) (yJ [8] #[.tmp 74, .tmp 82] #[24, 29] [.slice (some ⟨8, (0 + (f + 1) * 2), none⟩) (((X.getD u []).length) - (f + 1)) 0, .agg #[.int .i64 (((kl ++ (X.getD u []).drop f).getD (kl.length + 1) (0, 0)).1), .int .i64 (((kl ++ (X.getD u []).drop f).getD (kl.length + 1) (0, 0)).2)]] [(29, false)] (rU (X.getD u []) (f + 1) (((X.getD u []).length) - (f + 1)) oO oO (((kl ++ (X.getD u []).drop f).getD (kl.length + 1) (0, 0)).1) (((kl ++ (X.getD u []).drop f).getD (kl.length + 1) (0, 0)).2)) (.cons (.slice _ _ _ _ _ dD) (.cons (.flatB kK) .nil)) ⟨⟨rfl, qA _⟩, trivial⟩) (Sp.keep_ix2 hf)) <|
    .p (qJ ((f + 1 : Nat) : Int) ((show (IntKind.wrap .i64 (((f + 1 : Nat) : Int) + ((0 : Nat) : Int))) = ((f + 1 : Nat) : Int) from ((wrap_i64 oO oO).trans oO))) .i64) <| .e 1 10) ?_
   refine qD 16510974 16510975 ?_
   rcases Bool.eq_false_or_eq_true (Sp.cS tol (X.getD u []) a (f + 1)) with h4 | h4
   ·refine aw_d 33021949 (
     .a 2 10 <| .p (qJ ((a + 1 : Nat) : Int) ((show (IntKind.wrap .i64 (((a : Nat) : Int) + 1)) = ((a + 1 : Nat) : Int) from ((wrap_i64 oO oO).trans oO))) .i64) <| .a 1 10 <|
     .p (jT (v' := .slice (some ⟨8, (0 + (a + 1) * 2), none⟩) ((f + 1) - (a + 1)) 0) (jN (t := 24) (x := .tmp 85) (lo := some (.tmp 87)) (hi := some (.tmp 88)) (k := 8) (off := 0) (n := ((X.getD u []).length)) (c := 0) (z := 2) (l := ((a + 1 : Nat) : Int)) (h := ((f + 1 : Nat) : Int)) (m := ((f + 1) - (a + 1))) (b := ⟨((X.getD u []).flatMap ptc), 29, false, 2⟩) kK kK kK kK kK kK kK kK oO oO oO oO) kK) <|
     .a 2 10 <| .p (iX 24 90 91 8 0 ((X.getD u []).length) 2 ((a : Nat) : Int) oO oO) <|
     .p (lD 29 92 8 (0 + (((a : Nat) : Int)).toNat * 2) ⟨((X.getD u []).flatMap ptc), 29, false, 2⟩ (.agg #[.int .i64 (((X.getD u []).getD a (0, 0)).1), .int .i64 (((X.getD u []).getD a (0, 0)).2)]) (qL (j := a) kK kK oO oO)) <|
     .a 2 10 <| .p (iX 24 94 95 8 0 ((X.getD u []).length) 2 ((f + 1 : Nat) : Int) oO oO) <|
     .p (lD 29 96 8 (0 + (((f + 1 : Nat) : Int)).toNat * 2) ⟨((X.getD u []).flatMap ptc), 29, false, 2⟩ (.agg #[.int .i64 (((X.getD u []).getD (f + 1) (0, 0)).1), .int .i64 (((X.getD u []).getD (f + 1) (0, 0)).2)]) (qL (j := (f + 1)) kK kK oO oO)) <|
     .a 1 10 <|
     .p (uF (b' := true) (yJ [8] #[.tmp 89, .tmp 93, .tmp 97, .tmp 98] #[24, 29, 29, 3] [.slice (some ⟨8, (0 + (a + 1) * 2), none⟩) ((f + 1) - (a + 1)) 0, .agg #[.int .i64 (((X.getD u []).getD a (0, 0)).1), .int .i64 (((X.getD u []).getD a (0, 0)).2)], .agg #[.int .i64 (((X.getD u []).getD (f + 1) (0, 0)).1), .int .i64 (((X.getD u []).getD (f + 1) (0, 0)).2)], .int .i64 tol] [(29, false)] (near_ok (X.getD u []) a (f + 1) tol ⟨by omega, by omega⟩ oO hfx) (.cons (.slice _ _ _ _ _ dD) (.cons (.flatB kK) (.cons (.flatB kK) (.cons (.flatB kK) .nil)))) ⟨⟨rfl, qA _⟩, trivial⟩) (h4)) <|
     .a 4 10 <|
     .p (uF (b' := (Sp.mayB (N.set u (kl ++ (X.getD u []).drop f)) (kl ++ (X.getD u []).drop f) kl.length)) (wF 1 (n7 7 u) #[.tmp 101, .tmp 102, .tmp 103] #[36, 3, 3] [.slice (some ⟨1, 0, none⟩) X.length 0, .int .i64 ((u : Nat) : Int), .int .i64 ((kl.length : Nat) : Int)] ((by have h := may_ok (N.set u (kl ++ (X.getD u []).drop f)) u kl.length (Sp.KI.few (a := a) hR hul (hR.same u (Nat.le_refl u)) hM) (Sp.KI.sizes hR hul (hR.same u (Nat.le_refl u)) hK) (by rw [List.length_set]; omega) (by rw [List.length_set]; exact hul) (by rw [yM hul, if_pos rfl]; omega); rw [show (N.set u (kl ++ (X.getD u []).drop f)).length = X.length from by rw [List.length_set]; exact hNl] at h; exact h)) ⟨24, true, by kernel_rfl⟩ (may_rows (X := X) (TP := 29) kK z47 hul) (show RenL (famS 1 (n7 7 u)) (· < 1 + X.length) [.slice (some ⟨0, 0, none⟩) X.length 0, .int .i64 ((u : Nat) : Int), .int .i64 ((kl.length : Nat) : Int)] [.slice (some ⟨1, 0, none⟩) X.length 0, .int .i64 ((u : Nat) : Int), .int .i64 ((kl.length : Nat) : Int)] from (.cons (.slice 0 _ _ _ _ z43) (.cons (.flatB kK) (.cons (.flatB kK) .nil)))) (hn := by rw [List.length_set]; exact hNl.symm)) ((show (Sp.mayB (N.set u (kl ++ (X.getD u []).drop f)) ((N.set u (kl ++ (X.getD u []).drop f)).getD u []) kl.length) = (Sp.mayB (N.set u (kl ++ (X.getD u []).drop f)) (kl ++ (X.getD u []).drop f) kl.length) from (by rw [yM hul, if_pos rfl])))) <|
     .e 1 10) ?_
    refine qY 66043898 66043899 (Sp.mayB (N.set u (kl ++ (X.getD u []).drop f)) (kl ++ (X.getD u []).drop f) kl.length) (fun h5 => ?_) (fun h5 => ?_)
    ·refine aw_p 132087797 (
      .a 4 10 <| .p (iX 36 108 109 1 0 X.length 1 ((u : Nat) : Int) oO oO) <|
      .p (lD 24 110 1 (0 + (((u : Nat) : Int)).toNat * 1) ⟨(hds (n7 7 u) (N.set u (kl ++ (X.getD u []).drop f))), 24, true, 1⟩ (.slice (some ⟨7, 0, none⟩) ((kl ++ (X.getD u []).drop f).length) 0) z26) <|
      .a 2 10 <| .p (qJ ((kl.length + 1 : Nat) : Int) ((show (IntKind.wrap .i64 (((kl.length : Nat) : Int) + 1)) = ((kl.length + 1 : Nat) : Int) from ((wrap_i64 oO oO).trans oO))) .i64) <|
      .p (cB #[.tmp 111, .tmp 112, .tmp 114] #[24, 3, 3] [.slice (some ⟨7, 0, none⟩) ((kl ++ (X.getD u []).drop f).length) 0, .int .i64 ((kl.length : Nat) : Int), .int .i64 ((kl.length + 1 : Nat) : Int)] 0 [(7, ⟨((kl ++ (X.getD u []).drop f).flatMap ptc), 29, true, 2⟩)] [(7, ⟨((kl ++ (X.getD u []).drop (f + 1)).flatMap ptc), 29, true, 2⟩)] (.slice (some ⟨7, 0, none⟩) ((kl ++ (X.getD u []).drop (f + 1)).length) 0) [7] (qF2 kl (X.getD u []) f oO) (.cons (.slice _ _ _ _ _ dD) (.cons (.flatB kK) (.cons (.flatB kK) .nil))) ⟨rfl, ⟨rfl, rfl, rfl, (.flats (qA _))⟩, trivial⟩ ⟨rfl, ⟨rfl, rfl, rfl, (.flats (qA _))⟩, trivial⟩ (.slice _ _ _ _ _ dD)) <|
      .p (iX 36 106 107 1 0 X.length 1 ((u : Nat) : Int) oO oO) <|
      .p (j4 (t := 24) (x := .tmp 116) (y := .tmp 115) (k := 1) (off := (0 + (((u : Nat) : Int)).toNat * 1)) (b := ⟨(hds (n7 7 u) (N.set u (kl ++ (X.getD u []).drop f))), 24, true, 1⟩) (v := .slice (some ⟨7, 0, none⟩) ((kl ++ (X.getD u []).drop (f + 1)).length) 0) (cells := (hds (n7 7 u) (N.set u (kl ++ (X.getD u []).drop (f + 1))))) kK kK kK kK kK kK kK (Nat.ble_eq_true_of_le (by show _ + 1 ≤ (hds (n7 7 u) (N.set u (kl ++ (X.getD u []).drop f))).length; rw [hds_len, List.length_set]; omega)) (by rw [show (0 + (((u : Nat) : Int)).toNat * 1) = u from oO]; exact set_hd7 oO)) <| .nil _ _) ?_
     exact q5 5<|qG<|al_wFh (ih3 (kl, a, (f + 1)) (show (Sp.KI tol N u (X.getD u []) kl a (f + 1)) ∧ (∀ p, p ∈ kl → p ∈ (X.getD u [])) ∧ (Sp.kp tol N u (X.getD u []) ((X.getD u []).length + 1 - (f + 1)) kl a (f + 1) = Sp.kp tol N u (X.getD u []) (X.getD u []).length [Sp.g2 (X.getD u []) 0] 0 1) from ⟨by (first | exact hK.skip hul hf aA aA | exact hK.keep hf), by (first | exact hM | exact Sp.nF hM hK.fl), by (first | exact (Sp.s7 hf aA aA).trans hE | exact (Sp.fC hf (Sp.and_f1 aA)).trans hE | exact (Sp.fC hf (Sp.and_f2 aA)).trans hE)⟩) (show (X.getD u []).length - (f + 1) < (X.getD u []).length - f from by omega)) ⟨(jL j1 _ _ _), (x4 kK _), (vT _ _ _), (vT _ _ _), trivial⟩ (jH (gT _ _ _))
    refine qH<|aw_e 33021951 2 10<|qW (
     .a 1 10 <| .p (qJ ((kl.length + 1 : Nat) : Int) ((show (IntKind.wrap .i64 (((kl.length : Nat) : Int) + 1)) = ((kl.length + 1 : Nat) : Int) from ((wrap_i64 oO oO).trans oO))) .i64) <| .e 1 10) ?_
    have hll : (kl ++ [Sp.g2 (X.getD u []) f]).length = kl.length + 1 := (by simp)
    have hys : ((kl ++ [Sp.g2 (X.getD u []) f]) ++ (X.getD u []).drop (f + 1)) = (kl ++ (X.getD u []).drop f) := Sp.qD6 oO
    refine al_wF [(1, .int .i64 tol), (7, .slice (some ⟨1, 0, none⟩) X.length 0), (10, .int .i64 ((u : Nat) : Int)), (11, .slice (some ⟨8, 0, none⟩) ((X.getD u []).length) 0), (12, .int .i64 ((f : Nat) : Int)), (13, .int .i64 (((kl ++ [Sp.g2 (X.getD u []) f]).length : Nat) : Int)), (38, .slice (some ⟨0, 0, none⟩) X.length 0), (39, .int .i64 ((X.length : Nat) : Int)), (40, .int .i64 ((u : Nat) : Int))] [(0, ⟨(hds nA X), 24, false, 1⟩), (1, ⟨(hds (n7 7 u) (N.set u ((kl ++ [Sp.g2 (X.getD u []) f]) ++ (X.getD u []).drop (f + 1)))), 24, true, 1⟩), (7, ⟨(((kl ++ [Sp.g2 (X.getD u []) f]) ++ (X.getD u []).drop (f + 1)).flatMap ptc), 29, true, 2⟩), (8, ⟨((X.getD u []).flatMap ptc), 29, false, 2⟩)] (fam2 29 X (ownX 29 N u)) ⟨(jL j1 _ _ _), (x4 kK _), (vT _ _ _), (vT _ _ _), trivial⟩ (jH (gT _ _ _)) ?_ (by rw [hll]; kernel_rfl) (by rw [hys]; kernel_rfl)
    exact al_wFh (ih3 ((kl ++ [Sp.g2 (X.getD u []) f]), f, (f + 1)) (show (Sp.KI tol N u (X.getD u []) (kl ++ [Sp.g2 (X.getD u []) f]) f (f + 1)) ∧ (∀ p, p ∈ (kl ++ [Sp.g2 (X.getD u []) f]) → p ∈ (X.getD u [])) ∧ (Sp.kp tol N u (X.getD u []) ((X.getD u []).length + 1 - (f + 1)) (kl ++ [Sp.g2 (X.getD u []) f]) f (f + 1) = Sp.kp tol N u (X.getD u []) (X.getD u []).length [Sp.g2 (X.getD u []) 0] 0 1) from ⟨by (first | exact hK.skip hul hf aA aA | exact hK.keep hf), by (first | exact hM | exact Sp.nF hM hK.fl), by (first | exact (Sp.s7 hf aA aA).trans hE | exact (Sp.fC hf (Sp.and_f1 aA)).trans hE | exact (Sp.fC hf (Sp.and_f2 aA)).trans hE)⟩) (show (X.getD u []).length - (f + 1) < (X.getD u []).length - f from by omega)) ⟨(jL j1 _ _ _), (x4 kK _), (vT _ _ _), (vT _ _ _), trivial⟩ (jH (gT _ _ _))
   refine aw_d 33021949 (
    .a 2 10 <| .p (qJ ((a + 1 : Nat) : Int) ((show (IntKind.wrap .i64 (((a : Nat) : Int) + 1)) = ((a + 1 : Nat) : Int) from ((wrap_i64 oO oO).trans oO))) .i64) <| .a 1 10 <|
    .p (jT (v' := .slice (some ⟨8, (0 + (a + 1) * 2), none⟩) ((f + 1) - (a + 1)) 0) (jN (t := 24) (x := .tmp 85) (lo := some (.tmp 87)) (hi := some (.tmp 88)) (k := 8) (off := 0) (n := ((X.getD u []).length)) (c := 0) (z := 2) (l := ((a + 1 : Nat) : Int)) (h := ((f + 1 : Nat) : Int)) (m := ((f + 1) - (a + 1))) (b := ⟨((X.getD u []).flatMap ptc), 29, false, 2⟩) kK kK kK kK kK kK kK kK oO oO oO oO) kK) <|
    .a 2 10 <| .p (iX 24 90 91 8 0 ((X.getD u []).length) 2 ((a : Nat) : Int) oO oO) <|
    .p (lD 29 92 8 (0 + (((a : Nat) : Int)).toNat * 2) ⟨((X.getD u []).flatMap ptc), 29, false, 2⟩ (.agg #[.int .i64 (((X.getD u []).getD a (0, 0)).1), .int .i64 (((X.getD u []).getD a (0, 0)).2)]) (qL (j := a) kK kK oO oO)) <|
    .a 2 10 <| .p (iX 24 94 95 8 0 ((X.getD u []).length) 2 ((f + 1 : Nat) : Int) oO oO) <|
    .p (lD 29 96 8 (0 + (((f + 1 : Nat) : Int)).toNat * 2) ⟨((X.getD u []).flatMap ptc), 29, false, 2⟩ (.agg #[.int .i64 (((X.getD u []).getD (f + 1) (0, 0)).1), .int .i64 (((X.getD u []).getD (f + 1) (0, 0)).2)]) (qL (j := (f + 1)) kK kK oO oO)) <|
    .a 1 10 <|
    .p (uF (b' := false) (yJ [8] #[.tmp 89, .tmp 93, .tmp 97, .tmp 98] #[24, 29, 29, 3] [.slice (some ⟨8, (0 + (a + 1) * 2), none⟩) ((f + 1) - (a + 1)) 0, .agg #[.int .i64 (((X.getD u []).getD a (0, 0)).1), .int .i64 (((X.getD u []).getD a (0, 0)).2)], .agg #[.int .i64 (((X.getD u []).getD (f + 1) (0, 0)).1), .int .i64 (((X.getD u []).getD (f + 1) (0, 0)).2)], .int .i64 tol] [(29, false)] (near_ok (X.getD u []) a (f + 1) tol ⟨by omega, by omega⟩ oO hfx) (.cons (.slice _ _ _ _ _ dD) (.cons (.flatB kK) (.cons (.flatB kK) (.cons (.flatB kK) .nil)))) ⟨⟨rfl, qA _⟩, trivial⟩) (h4)) <|
    .e 6 10) ?_
   refine qP 66043899<|qH<|aw_e 33021951 2 10<|qW (
    .a 1 10 <| .p (qJ ((kl.length + 1 : Nat) : Int) ((show (IntKind.wrap .i64 (((kl.length : Nat) : Int) + 1)) = ((kl.length + 1 : Nat) : Int) from ((wrap_i64 oO oO).trans oO))) .i64) <| .e 1 10) ?_
   have hll : (kl ++ [Sp.g2 (X.getD u []) f]).length = kl.length + 1 := (by simp)
   have hys : ((kl ++ [Sp.g2 (X.getD u []) f]) ++ (X.getD u []).drop (f + 1)) = (kl ++ (X.getD u []).drop f) := Sp.qD6 oO
   refine al_wF [(1, .int .i64 tol), (7, .slice (some ⟨1, 0, none⟩) X.length 0), (10, .int .i64 ((u : Nat) : Int)), (11, .slice (some ⟨8, 0, none⟩) ((X.getD u []).length) 0), (12, .int .i64 ((f : Nat) : Int)), (13, .int .i64 (((kl ++ [Sp.g2 (X.getD u []) f]).length : Nat) : Int)), (38, .slice (some ⟨0, 0, none⟩) X.length 0), (39, .int .i64 ((X.length : Nat) : Int)), (40, .int .i64 ((u : Nat) : Int))] [(0, ⟨(hds nA X), 24, false, 1⟩), (1, ⟨(hds (n7 7 u) (N.set u ((kl ++ [Sp.g2 (X.getD u []) f]) ++ (X.getD u []).drop (f + 1)))), 24, true, 1⟩), (7, ⟨(((kl ++ [Sp.g2 (X.getD u []) f]) ++ (X.getD u []).drop (f + 1)).flatMap ptc), 29, true, 2⟩), (8, ⟨((X.getD u []).flatMap ptc), 29, false, 2⟩)] (fam2 29 X (ownX 29 N u)) ⟨(jL j1 _ _ _), (x4 kK _), (vT _ _ _), (vT _ _ _), trivial⟩ (jH (gT _ _ _)) ?_ (by rw [hll]; kernel_rfl) (by rw [hys]; kernel_rfl)
   exact al_wFh (ih3 ((kl ++ [Sp.g2 (X.getD u []) f]), f, (f + 1)) (show (Sp.KI tol N u (X.getD u []) (kl ++ [Sp.g2 (X.getD u []) f]) f (f + 1)) ∧ (∀ p, p ∈ (kl ++ [Sp.g2 (X.getD u []) f]) → p ∈ (X.getD u [])) ∧ (Sp.kp tol N u (X.getD u []) ((X.getD u []).length + 1 - (f + 1)) (kl ++ [Sp.g2 (X.getD u []) f]) f (f + 1) = Sp.kp tol N u (X.getD u []) (X.getD u []).length [Sp.g2 (X.getD u []) 0] 0 1) from ⟨by (first | exact hK.skip hul hf aA aA | exact hK.keep hf), by (first | exact hM | exact Sp.nF hM hK.fl), by (first | exact (Sp.s7 hf aA aA).trans hE | exact (Sp.fC hf (Sp.and_f1 aA)).trans hE | exact (Sp.fC hf (Sp.and_f2 aA)).trans hE)⟩) (show (X.getD u []).length - (f + 1) < (X.getD u []).length - f from by omega)) ⟨(jL j1 _ _ _), (x4 kK _), (vT _ _ _), (vT _ _ _), trivial⟩ (jH (gT _ _ _))
  have h3p : ¬ ((((kl.length : Nat) : Int) < ((((kl ++ (X.getD u []).drop f).length : Nat) : Int) - 1))) := pB h3
  have hfe : ¬ f + 1 < (X.getD u []).length := by omega
  refine q5 4<|qG<|qW (
   .p (qJ (((u : Nat) : Int) + 1) (wrap_i64 oO oO) .i64) <| .e 1 9) ?_
  refine wZ (keep_out (TH := 24) (K := 1) (q := 7) (i := u) (N := N) (y := (kl ++ (X.getD u []).drop f)) (X := X) (TP := 29) (T := [(1, .int .i64 tol), (7, .slice (some ⟨1, 0, none⟩) X.length 0), (38, .slice (some ⟨0, 0, none⟩) X.length 0), (39, .int .i64 ((X.length : Nat) : Int)), (40, .int .i64 (((u : Nat) : Int) + 1))]) rfl ⟨by decide, by decide⟩ ⟨by decide, by decide, by decide⟩ hul kK kK kK kK kK z47) ?_
  exact al_wFh (ih2 ((u + 1), (N.set u (kl ++ (X.getD u []).drop f))) (show ((u + 1) ≤ X.length) ∧ (Sp.KR tol X (u + 1) (N.set u (kl ++ (X.getD u []).drop f))) from ⟨by omega, by (exact Sp.KR.next hc hR hux ((Sp.kp_end hfe hK.fl).trans hE))⟩) (show X.length - (u + 1) < X.length - u from by omega)) ⟨(jL j1 _ _ _), (jL j5 _ _ _), trivial⟩ (jH (gU _ _))
 have h2p : ¬ ((((u : Nat) : Int) < ((X.length : Nat) : Int))) := pB h2
 have hue : u = X.length := by omega
 refine q5 2<|qG<|aw_e 127 3 2<|qF ?_
 have hY : N = Sp.gV tol X X.length := (by rw [hR.eq, hue])
 have hNl : N.length = X.length := hR.len
 exact enF_ret [.slice (some ⟨1, 0, none⟩) X.length 0, .int .i64 0] ⟨by rw [← hY, hNl], (by rw [← hY]; kernel_rfl), fun j hj => by rw [← hY] at hj ⊢; exact Eq.trans (b := (fam2 29 X (ownB 29 N)) (nB j)) kK (fam2_own hj)⟩
open Go Go.Proofs
theorem hV (px py qx qy ax ay bx b_y : Int) (pxl : -1048576 ≤ px) (pxu : px ≤ 1048576) (pyl : -1048576 ≤ py) (pyu : py ≤ 1048576) (qxl : -1048576 ≤ qx) (qxu : qx ≤ 1048576) (qyl : -1048576 ≤ qy) (qyu : qy ≤ 1048576) (axl : -1048576 ≤ ax) (axu : ax ≤ 1048576) (ayl : -1048576 ≤ ay) (ayu : ay ≤ 1048576) (bxl : -1048576 ≤ bx) (bxu : bx ≤ 1048576) (b_yl : -1048576 ≤ b_y) (b_yu : b_y ≤ 1048576) :
    AC Try.prog 102 0 ([.agg #[.int .i64 px, .int .i64 py], .agg #[.int .i64 qx, .int .i64 qy], .agg #[.int .i64 ax, .int .i64 ay], .agg #[.int .i64 bx, .int .i64 b_y]]) [] (.bool (Sp.farB px py qx qy ax ay bx b_y)) [] := by
 have d1 := Sp.dq_bd (px := px) (py := py) (ax := ax) (ay := ay) (bx := bx) (b_y := b_y) oO oO oO oO oO oO oO oO oO oO oO oO; have d2 := Sp.dq_bd (px := qx) (py := qy) (ax := ax) (ay := ay) (bx := bx) (b_y := b_y) oO oO oO oO oO oO oO oO oO oO oO oO
 refine qK Try.func102 (fun w0 W pin => ?_)
 refine aw_e 3 5 1<|aw_p 7 (
  .a 2 5 <| .p (qC (sq_in ax ay bx b_y oO oO oO oO oO oO oO oO)) <| .e 2 5) ?_
 refine aw_p 15 (
  .a 3 5 <| .p (qC (e7 px py ax ay bx b_y oO oO oO oO oO oO oO oO oO oO oO oO)) <| .e 6 5) ?_
 refine aw_p 31 (
  .a 3 6 <| .p (qC (e7 qx qy ax ay bx b_y oO oO oO oO oO oO oO oO oO oO oO oO)) <| .e 6 6) ?_
 refine aw_d 63 (
  .a 3 7 <|
  .p (wE (n' := Int.tdiv (Sp.mx 1 (Sp.dot ax ay bx b_y bx b_y)) (Sp.sqd px py ax ay bx b_y)) (qBH (t := 3) (t2 := 3) (x := .tmp 34) (y := .tmp 35) (k := .i64) (a := (Sp.mx 1 (Sp.dot ax ay bx b_y bx b_y))) (b := (Sp.sqd px py ax ay bx b_y)) kK kK kK oO) (wrap_i64 oO oO)) <|
  .p (qC ((by have h := tX (Sp.sqn px py ax ay bx b_y) (Int.tdiv (Sp.mx 1 (Sp.dot ax ay bx b_y bx b_y)) (Sp.sqd px py ax ay bx b_y)) oO oO oO oO; rw [(Sp.qU (x := (Sp.sqn px py ax ay bx b_y) * (Int.tdiv (Sp.mx 1 (Sp.dot ax ay bx b_y bx b_y)) (Sp.sqd px py ax ay bx b_y))) oO).1, (Sp.qU (x := (Sp.sqn px py ax ay bx b_y) * (Int.tdiv (Sp.mx 1 (Sp.dot ax ay bx b_y bx b_y)) (Sp.sqd px py ax ay bx b_y))) oO).2] at h; exact h))) <|
  .e 4 7) ?_
 refine aw_d 127 (
  .a 3 7 <|
  .p (wE (n' := Int.tdiv (Sp.mx 1 (Sp.dot ax ay bx b_y bx b_y)) (Sp.sqd qx qy ax ay bx b_y)) (qBH (t := 3) (t2 := 3) (x := .tmp 42) (y := .tmp 43) (k := .i64) (a := (Sp.mx 1 (Sp.dot ax ay bx b_y bx b_y))) (b := (Sp.sqd qx qy ax ay bx b_y)) kK kK kK oO) (wrap_i64 oO oO)) <|
  .p (qC ((by have h := tX (Sp.sqn qx qy ax ay bx b_y) (Int.tdiv (Sp.mx 1 (Sp.dot ax ay bx b_y bx b_y)) (Sp.sqd qx qy ax ay bx b_y)) oO oO oO oO; rw [(Sp.qU (x := (Sp.sqn qx qy ax ay bx b_y) * (Int.tdiv (Sp.mx 1 (Sp.dot ax ay bx b_y bx b_y)) (Sp.sqd qx qy ax ay bx b_y))) oO).1, (Sp.qU (x := (Sp.sqn qx qy ax ay bx b_y) * (Int.tdiv (Sp.mx 1 (Sp.dot ax ay bx b_y bx b_y)) (Sp.sqd qx qy ax ay bx b_y))) oO).2] at h; exact h))) <|
  .e 4 7) ?_
 refine aw_p 255 (
  .a 2 7 <| .p (qC (wcmp_ok ((Sp.sqn px py ax ay bx b_y) * (Int.tdiv (Sp.mx 1 (Sp.dot ax ay bx b_y bx b_y)) (Sp.sqd px py ax ay bx b_y))) ((Sp.sqn qx qy ax ay bx b_y) * (Int.tdiv (Sp.mx 1 (Sp.dot ax ay bx b_y bx b_y)) (Sp.sqd qx qy ax ay bx b_y))) oO oO oO oO)) <|
  .e 2 7) ?_
 exact qF<|qB [.bool (decide ((Sp.cmp ((Sp.sqn px py ax ay bx b_y) * (Int.tdiv (Sp.mx 1 (Sp.dot ax ay bx b_y bx b_y)) (Sp.sqd px py ax ay bx b_y))) ((Sp.sqn qx qy ax ay bx b_y) * (Int.tdiv (Sp.mx 1 (Sp.dot ax ay bx b_y bx b_y)) (Sp.sqd qx qy ax ay bx b_y)))) > 0))] (show (.bool (decide ((Sp.cmp ((Sp.sqn px py ax ay bx b_y) * (Int.tdiv (Sp.mx 1 (Sp.dot ax ay bx b_y bx b_y)) (Sp.sqd px py ax ay bx b_y))) ((Sp.sqn qx qy ax ay bx b_y) * (Int.tdiv (Sp.mx 1 (Sp.dot ax ay bx b_y bx b_y)) (Sp.sqd qx qy ax ay bx b_y)))) > 0)) : Value) = (.bool (Sp.farB px py qx qy ax ay bx b_y)) from (congrArg Value.bool (show (decide ((Sp.cmp ((Sp.sqn px py ax ay bx b_y) * (Int.tdiv (Sp.mx 1 (Sp.dot ax ay bx b_y bx b_y)) (Sp.sqd px py ax ay bx b_y))) ((Sp.sqn qx qy ax ay bx b_y) * (Int.tdiv (Sp.mx 1 (Sp.dot ax ay bx b_y bx b_y)) (Sp.sqd qx qy ax ay bx b_y)))) > 0)) = (Sp.farB px py qx qy ax ay bx b_y) from by (exact Sp.far_eq _ _))))
open Go Go.Proofs
theorem mark_nil (ps : List (Int × Int)) (hf : Sp.Few 1048576 ps) (hz : ps.length ≤ 8796093021952) (tol : Int) (f t : Nat) (kp : List Bool) (hk : kp.length = ps.length) (hft : f < t ∧ t < ps.length) (hs : Sp.scn ps tol f t (t - (f + 1)) = 0) :
    AC Try.prog 57 2 ([.slice (some ⟨0, 0, none⟩) ps.length 0, .slice (some ⟨1, 0, none⟩) ps.length 0, .int .i64 ((f : Nat) : Int), .int .i64 ((t : Nat) : Int), .int .i64 tol]) [(0, ⟨(ps.flatMap ptc), 29, true, 2⟩), (1, ⟨(kp.map boolv), 4, true, 1⟩)] (.tuple #[]) [(0, ⟨(ps.flatMap ptc), 29, true, 2⟩), (1, ⟨(kp.map boolv), 4, true, 1⟩)] := by
 have ff := hf f; have ft := hf t
 refine qK Try.func57 (fun w0 W pin => ?_)
 refine aw_e 3 1 2<|qD 6 7<|aw_p 13 (
  .a 1 2 <| .p (qJ (((f : Nat) : Int) + 1) (wrap_i64 oO oO) .i64) <| .e 1 2) ?_
 refine qM 0 27<|q6 55<|al_w _ _ (jS (fun i : Nat × Nat => (fun (e : Nat) (b : Nat) => mkSt 2 [(0, .slice (some ⟨0, 0, none⟩) ps.length 0), (1, .slice (some ⟨1, 0, none⟩) ps.length 0), (2, .int .i64 ((f : Nat) : Int)), (3, .int .i64 ((t : Nat) : Int)), (4, .int .i64 tol), (10, .int .i64 (((b : Nat) : Int) - 1)), (11, .int .i64 ((e : Nat) : Int))] [(0, ⟨(ps.flatMap ptc), 29, true, 2⟩), (1, ⟨(kp.map boolv), 4, true, 1⟩)]) i.1 i.2) (fun i : Nat × Nat => (fun (e : Nat) (b : Nat) => (f + 1 ≤ e ∧ e ≤ t) ∧ (Sp.scn ps tol f t (e - (f + 1)) = b) ∧ (b ≤ e)) i.1 i.2) (fun i : Nat × Nat => (fun (e : Nat) (b : Nat) => t - e) i.1 i.2) (fun i hi1 ih1 => ?_) ((f + 1), 0) (show (f + 1 ≤ (f + 1) ∧ (f + 1) ≤ t) ∧ (Sp.scn ps tol f t ((f + 1) - (f + 1)) = 0) ∧ (0 ≤ (f + 1)) from ⟨by omega, by (rw [Nat.sub_self]; rfl), by omega⟩)) (hc := z14)
 obtain ⟨e, b⟩ := i
 have hi1' : (f + 1 ≤ e ∧ e ≤ t) ∧ (Sp.scn ps tol f t (e - (f + 1)) = b) ∧ (b ≤ e) := hi1
 obtain ⟨he, hb, hl⟩ := hi1'
 show AL _ _ _ (mkSt _ _ _) _
 refine qE<|qD 110 111<|aw_e 221 3 2<|qY 442 443 (decide (((e : Nat) : Int) < ((t : Nat) : Int))) (fun h1 => ?_) (fun h1 => ?_)
 ·have h1p : ((((e : Nat) : Int) < ((t : Nat) : Int))) := pB h1
  have fe := hf e
  refine qH<|qD 222 223<|qM 1 445 ?_
  rcases Bool.eq_false_or_eq_true (!(Sp.wthn ((ps.getD e (0, 0)).1) ((ps.getD e (0, 0)).2) ((ps.getD f (0, 0)).1) ((ps.getD f (0, 0)).2) ((ps.getD t (0, 0)).1) ((ps.getD t (0, 0)).2) (Sp.mx tol 0))) with h2 | h2
  ·rcases Bool.eq_false_or_eq_true (decide ((((b : Nat) : Int) - 1) < 0)) with h3 | h3
   ·have h3p : (((((b : Nat) : Int) - 1) < 0)) := pB h3
    refine aw_d 891 (
     .a 2 2 <| .p (iX 24 19 20 0 0 ps.length 2 ((e : Nat) : Int) oO oO) <|
     .p (lD 29 21 0 (0 + (((e : Nat) : Int)).toNat * 2) ⟨(ps.flatMap ptc), 29, true, 2⟩ (.agg #[.int .i64 ((ps.getD e (0, 0)).1), .int .i64 ((ps.getD e (0, 0)).2)]) (qL (j := e) kK kK oO oO)) <|
     .a 2 2 <| .p (iX 24 23 24 0 0 ps.length 2 ((f : Nat) : Int) oO oO) <|
     .p (lD 29 25 0 (0 + (((f : Nat) : Int)).toNat * 2) ⟨(ps.flatMap ptc), 29, true, 2⟩ (.agg #[.int .i64 ((ps.getD f (0, 0)).1), .int .i64 ((ps.getD f (0, 0)).2)]) (qL (j := f) kK kK oO oO)) <|
     .a 2 2 <| .p (iX 24 27 28 0 0 ps.length 2 ((t : Nat) : Int) oO oO) <|
     .p (lD 29 29 0 (0 + (((t : Nat) : Int)).toNat * 2) ⟨(ps.flatMap ptc), 29, true, 2⟩ (.agg #[.int .i64 ((ps.getD t (0, 0)).1), .int .i64 ((ps.getD t (0, 0)).2)]) (qL (j := t) kK kK oO oO)) <|
     .a 2 2 <|
     .p (qC (gR ((ps.getD e (0, 0)).1) ((ps.getD e (0, 0)).2) ((ps.getD f (0, 0)).1) ((ps.getD f (0, 0)).2) ((ps.getD t (0, 0)).1) ((ps.getD t (0, 0)).2) (Sp.mx tol 0) oO oO oO oO oO oO oO oO oO oO oO oO)) <|
     .p (qN true (h2)) <| .a 2 2 <| .p (qN true (h3)) <| .e 20 2) ?_
    refine qR 1782<|qW (
     .a 1 2 <| .p (qJ (((e + 1 : Nat) : Int) - 1) ((show ((e : Nat) : Int) = (((e + 1 : Nat) : Int) - 1) from oO)) .i64) <| .nil _ _) ?_
    refine qW (
     .a 1 2 <| .p (qJ (((e : Nat) : Int) + 1) (wrap_i64 oO oO) .i64) <| .e 1 2) ?_
    exact al_w _ _ (ih1 ((e + 1), (e + 1)) (show (f + 1 ≤ (e + 1) ∧ (e + 1) ≤ t) ∧ (Sp.scn ps tol f t ((e + 1) - (f + 1)) = (e + 1)) ∧ ((e + 1) ≤ (e + 1)) from ⟨by omega, by (first | exact Sp.yP oO hb z38 | exact Sp.gS oO hb z37 oO | exact Sp.xW oO hb z37 aA | exact Sp.yQ oO hb oO aA), by omega⟩) (show t - (e + 1) < t - e from by omega)) (hc := z14)
   have h3p : ¬ (((((b : Nat) : Int) - 1) < 0)) := pB h3
   have fb := hf (b - 1)
   refine aw_d 891 (
    .a 2 2 <| .p (iX 24 19 20 0 0 ps.length 2 ((e : Nat) : Int) oO oO) <|
    .p (lD 29 21 0 (0 + (((e : Nat) : Int)).toNat * 2) ⟨(ps.flatMap ptc), 29, true, 2⟩ (.agg #[.int .i64 ((ps.getD e (0, 0)).1), .int .i64 ((ps.getD e (0, 0)).2)]) (qL (j := e) kK kK oO oO)) <|
    .a 2 2 <| .p (iX 24 23 24 0 0 ps.length 2 ((f : Nat) : Int) oO oO) <|
    .p (lD 29 25 0 (0 + (((f : Nat) : Int)).toNat * 2) ⟨(ps.flatMap ptc), 29, true, 2⟩ (.agg #[.int .i64 ((ps.getD f (0, 0)).1), .int .i64 ((ps.getD f (0, 0)).2)]) (qL (j := f) kK kK oO oO)) <|
    .a 2 2 <| .p (iX 24 27 28 0 0 ps.length 2 ((t : Nat) : Int) oO oO) <|
    .p (lD 29 29 0 (0 + (((t : Nat) : Int)).toNat * 2) ⟨(ps.flatMap ptc), 29, true, 2⟩ (.agg #[.int .i64 ((ps.getD t (0, 0)).1), .int .i64 ((ps.getD t (0, 0)).2)]) (qL (j := t) kK kK oO oO)) <|
    .a 2 2 <|
    .p (qC (gR ((ps.getD e (0, 0)).1) ((ps.getD e (0, 0)).2) ((ps.getD f (0, 0)).1) ((ps.getD f (0, 0)).2) ((ps.getD t (0, 0)).1) ((ps.getD t (0, 0)).2) (Sp.mx tol 0) oO oO oO oO oO oO oO oO oO oO oO oO)) <|
    .p (qN true (h2)) <| .a 2 2 <| .p (qN false (h3)) <| .a 3 2 <|
    .p (iX 24 39 40 0 0 ps.length 2 ((e : Nat) : Int) oO oO) <|
    .p (lD 29 41 0 (0 + (((e : Nat) : Int)).toNat * 2) ⟨(ps.flatMap ptc), 29, true, 2⟩ (.agg #[.int .i64 ((ps.getD e (0, 0)).1), .int .i64 ((ps.getD e (0, 0)).2)]) (qL (j := e) kK kK oO oO)) <|
    .a 1 2 <| .p (qJ ((b - 1 : Nat) : Int) ((show (((b : Nat) : Int) - 1) = ((b - 1 : Nat) : Int) from oO)) .i64) <|
    .p (iX 24 43 44 0 0 ps.length 2 ((b - 1 : Nat) : Int) oO oO) <|
    .p (lD 29 45 0 (0 + (((b - 1 : Nat) : Int)).toNat * 2) ⟨(ps.flatMap ptc), 29, true, 2⟩ (.agg #[.int .i64 ((ps.getD (b - 1) (0, 0)).1), .int .i64 ((ps.getD (b - 1) (0, 0)).2)]) (qL (j := (b - 1)) kK kK oO oO)) <|
    .a 2 2 <| .p (iX 24 47 48 0 0 ps.length 2 ((f : Nat) : Int) oO oO) <|
    .p (lD 29 49 0 (0 + (((f : Nat) : Int)).toNat * 2) ⟨(ps.flatMap ptc), 29, true, 2⟩ (.agg #[.int .i64 ((ps.getD f (0, 0)).1), .int .i64 ((ps.getD f (0, 0)).2)]) (qL (j := f) kK kK oO oO)) <|
    .a 2 2 <| .p (iX 24 51 52 0 0 ps.length 2 ((t : Nat) : Int) oO oO) <|
    .p (lD 29 53 0 (0 + (((t : Nat) : Int)).toNat * 2) ⟨(ps.flatMap ptc), 29, true, 2⟩ (.agg #[.int .i64 ((ps.getD t (0, 0)).1), .int .i64 ((ps.getD t (0, 0)).2)]) (qL (j := t) kK kK oO oO)) <|
    .p (qC (hV ((ps.getD e (0, 0)).1) ((ps.getD e (0, 0)).2) ((ps.getD (b - 1) (0, 0)).1) ((ps.getD (b - 1) (0, 0)).2) ((ps.getD f (0, 0)).1) ((ps.getD f (0, 0)).2) ((ps.getD t (0, 0)).1) ((ps.getD t (0, 0)).2) oO oO oO oO oO oO oO oO oO oO oO oO oO oO oO oO)) <|
    .e 2 2) ?_
   refine qY 1782 1783 (Sp.farB ((ps.getD e (0, 0)).1) ((ps.getD e (0, 0)).2) ((ps.getD (b - 1) (0, 0)).1) ((ps.getD (b - 1) (0, 0)).2) ((ps.getD f (0, 0)).1) ((ps.getD f (0, 0)).2) ((ps.getD t (0, 0)).1) ((ps.getD t (0, 0)).2)) (fun h4 => ?_) (fun h4 => ?_)
   ·refine qW (
     .a 1 2 <| .p (qJ (((e + 1 : Nat) : Int) - 1) ((show ((e : Nat) : Int) = (((e + 1 : Nat) : Int) - 1) from oO)) .i64) <| .nil _ _) ?_
    refine qW (
     .a 1 2 <| .p (qJ (((e : Nat) : Int) + 1) (wrap_i64 oO oO) .i64) <| .e 1 2) ?_
    exact al_w _ _ (ih1 ((e + 1), (e + 1)) (show (f + 1 ≤ (e + 1) ∧ (e + 1) ≤ t) ∧ (Sp.scn ps tol f t ((e + 1) - (f + 1)) = (e + 1)) ∧ ((e + 1) ≤ (e + 1)) from ⟨by omega, by (first | exact Sp.yP oO hb z38 | exact Sp.gS oO hb z37 oO | exact Sp.xW oO hb z37 aA | exact Sp.yQ oO hb oO aA), by omega⟩) (show t - (e + 1) < t - e from by omega)) (hc := z14)
   refine qH<|qW (
    .a 1 2 <| .p (qJ (((e : Nat) : Int) + 1) (wrap_i64 oO oO) .i64) <| .e 1 2) ?_
   exact al_w _ _ (ih1 ((e + 1), b) (show (f + 1 ≤ (e + 1) ∧ (e + 1) ≤ t) ∧ (Sp.scn ps tol f t ((e + 1) - (f + 1)) = b) ∧ (b ≤ (e + 1)) from ⟨by omega, by (first | exact Sp.yP oO hb z38 | exact Sp.gS oO hb z37 oO | exact Sp.xW oO hb z37 aA | exact Sp.yQ oO hb oO aA), by omega⟩) (show t - (e + 1) < t - e from by omega)) (hc := z14)
  refine aw_d 891 (
   .a 2 2 <| .p (iX 24 19 20 0 0 ps.length 2 ((e : Nat) : Int) oO oO) <|
   .p (lD 29 21 0 (0 + (((e : Nat) : Int)).toNat * 2) ⟨(ps.flatMap ptc), 29, true, 2⟩ (.agg #[.int .i64 ((ps.getD e (0, 0)).1), .int .i64 ((ps.getD e (0, 0)).2)]) (qL (j := e) kK kK oO oO)) <|
   .a 2 2 <| .p (iX 24 23 24 0 0 ps.length 2 ((f : Nat) : Int) oO oO) <|
   .p (lD 29 25 0 (0 + (((f : Nat) : Int)).toNat * 2) ⟨(ps.flatMap ptc), 29, true, 2⟩ (.agg #[.int .i64 ((ps.getD f (0, 0)).1), .int .i64 ((ps.getD f (0, 0)).2)]) (qL (j := f) kK kK oO oO)) <|
   .a 2 2 <| .p (iX 24 27 28 0 0 ps.length 2 ((t : Nat) : Int) oO oO) <|
   .p (lD 29 29 0 (0 + (((t : Nat) : Int)).toNat * 2) ⟨(ps.flatMap ptc), 29, true, 2⟩ (.agg #[.int .i64 ((ps.getD t (0, 0)).1), .int .i64 ((ps.getD t (0, 0)).2)]) (qL (j := t) kK kK oO oO)) <|
   .a 2 2 <|
   .p (qC (gR ((ps.getD e (0, 0)).1) ((ps.getD e (0, 0)).2) ((ps.getD f (0, 0)).1) ((ps.getD f (0, 0)).2) ((ps.getD t (0, 0)).1) ((ps.getD t (0, 0)).2) (Sp.mx tol 0) oO oO oO oO oO oO oO oO oO oO oO oO)) <|
   .p (qN false (h2)) <| .e 23 2) ?_
  refine qP 1783<|qH<|qW (
   .a 1 2 <| .p (qJ (((e : Nat) : Int) + 1) (wrap_i64 oO oO) .i64) <| .e 1 2) ?_
  exact al_w _ _ (ih1 ((e + 1), b) (show (f + 1 ≤ (e + 1) ∧ (e + 1) ≤ t) ∧ (Sp.scn ps tol f t ((e + 1) - (f + 1)) = b) ∧ (b ≤ (e + 1)) from ⟨by omega, by (first | exact Sp.yP oO hb z38 | exact Sp.gS oO hb z37 oO | exact Sp.xW oO hb z37 aA | exact Sp.yQ oO hb oO aA), by omega⟩) (show t - (e + 1) < t - e from by omega)) (hc := z14)
 have h1p : ¬ ((((e : Nat) : Int) < ((t : Nat) : Int))) := pB h1
 have het : e = t := by omega
 refine q5 0<|qG<|aw_w [(0, .slice (some ⟨0, 0, none⟩) ps.length 0), (1, .slice (some ⟨1, 0, none⟩) ps.length 0), (2, .int .i64 ((f : Nat) : Int)), (3, .int .i64 ((t : Nat) : Int)), (4, .int .i64 tol), (10, .int .i64 ((((0) : Nat) : Int) - 1))] [(0, ⟨(ps.flatMap ptc), 29, true, 2⟩), (1, ⟨(kp.map boolv), 4, true, 1⟩)] ?_ (by obtain rfl : b = 0 := (by rw [← hb, het]; exact hs); kernel_rfl) (by obtain rfl : b = 0 := (by rw [← hb, het]; exact hs); kernel_rfl) (hc := z14)
 refine qD 14 15<|aw_p 29 (
  .a 1 2 <| .p (qN true ((show (decide (((((0) : Nat) : Int) - 1) < 0)) = true from (by simp)))) <| .nil _ _) ?_
 exact qR 58<|qF<|qB [] kK
theorem mark_cons (ps : List (Int × Int)) (hf : Sp.Few 1048576 ps) (hz : ps.length ≤ 8796093021952) (tol : Int) (f t : Nat) (kp : List Bool) (hk : kp.length = ps.length) (hft : f < t ∧ t < ps.length) (m : Nat) (J K : List Nat) (hm : f < m ∧ m < t) (hs : Sp.scn ps tol f t (t - (f + 1)) = m + 1) (hA : ∀ kp : List Bool, kp.length = ps.length → AC Try.prog 57 2 [.slice (some ⟨0, 0, none⟩) ps.length 0, .slice (some ⟨1, 0, none⟩) ps.length 0, .int .i64 ((f : Nat) : Int), .int .i64 ((m : Nat) : Int), .int .i64 tol] [(0, ⟨(ps.flatMap ptc), 29, true, 2⟩), (1, ⟨(kp.map boolv), 4, true, 1⟩)] (.tuple #[]) [(0, ⟨(ps.flatMap ptc), 29, true, 2⟩), (1, ⟨((Sp.setJ kp J).map boolv), 4, true, 1⟩)]) (hB : ∀ kp : List Bool, kp.length = ps.length → AC Try.prog 57 2 [.slice (some ⟨0, 0, none⟩) ps.length 0, .slice (some ⟨1, 0, none⟩) ps.length 0, .int .i64 ((m : Nat) : Int), .int .i64 ((t : Nat) : Int), .int .i64 tol] [(0, ⟨(ps.flatMap ptc), 29, true, 2⟩), (1, ⟨(kp.map boolv), 4, true, 1⟩)] (.tuple #[]) [(0, ⟨(ps.flatMap ptc), 29, true, 2⟩), (1, ⟨((Sp.setJ kp K).map boolv), 4, true, 1⟩)]) :
    AC Try.prog 57 2 ([.slice (some ⟨0, 0, none⟩) ps.length 0, .slice (some ⟨1, 0, none⟩) ps.length 0, .int .i64 ((f : Nat) : Int), .int .i64 ((t : Nat) : Int), .int .i64 tol]) [(0, ⟨(ps.flatMap ptc), 29, true, 2⟩), (1, ⟨(kp.map boolv), 4, true, 1⟩)] (.tuple #[]) [(0, ⟨(ps.flatMap ptc), 29, true, 2⟩), (1, ⟨((Sp.setJ (Sp.setJ (kp.set m true) J) K).map boolv), 4, true, 1⟩)] := by
 have ff := hf f; have ft := hf t
 refine qK Try.func57 (fun w0 W pin => ?_)
 refine aw_e 3 1 2<|qD 6 7<|aw_p 13 (
  .a 1 2 <| .p (qJ (((f : Nat) : Int) + 1) (wrap_i64 oO oO) .i64) <| .e 1 2) ?_
 refine qM 0 27<|q6 55<|al_w _ _ (jS (fun i : Nat × Nat => (fun (e : Nat) (b : Nat) => mkSt 2 [(0, .slice (some ⟨0, 0, none⟩) ps.length 0), (1, .slice (some ⟨1, 0, none⟩) ps.length 0), (2, .int .i64 ((f : Nat) : Int)), (3, .int .i64 ((t : Nat) : Int)), (4, .int .i64 tol), (10, .int .i64 (((b : Nat) : Int) - 1)), (11, .int .i64 ((e : Nat) : Int))] [(0, ⟨(ps.flatMap ptc), 29, true, 2⟩), (1, ⟨(kp.map boolv), 4, true, 1⟩)]) i.1 i.2) (fun i : Nat × Nat => (fun (e : Nat) (b : Nat) => (f + 1 ≤ e ∧ e ≤ t) ∧ (Sp.scn ps tol f t (e - (f + 1)) = b) ∧ (b ≤ e)) i.1 i.2) (fun i : Nat × Nat => (fun (e : Nat) (b : Nat) => t - e) i.1 i.2) (fun i hi1 ih1 => ?_) ((f + 1), 0) (show (f + 1 ≤ (f + 1) ∧ (f + 1) ≤ t) ∧ (Sp.scn ps tol f t ((f + 1) - (f + 1)) = 0) ∧ (0 ≤ (f + 1)) from ⟨by omega, by (rw [Nat.sub_self]; rfl), by omega⟩)) (hc := z14)
 obtain ⟨e, b⟩ := i
 have hi1' : (f + 1 ≤ e ∧ e ≤ t) ∧ (Sp.scn ps tol f t (e - (f + 1)) = b) ∧ (b ≤ e) := hi1
 obtain ⟨he, hb, hl⟩ := hi1'
 show AL _ _ _ (mkSt _ _ _) _
 refine qE<|qD 110 111<|aw_e 221 3 2<|qY 442 443 (decide (((e : Nat) : Int) < ((t : Nat) : Int))) (fun h1 => ?_) (fun h1 => ?_)
 ·have h1p : ((((e : Nat) : Int) < ((t : Nat) : Int))) := pB h1
  have fe := hf e
  refine qH<|qD 222 223<|qM 1 445 ?_
  rcases Bool.eq_false_or_eq_true (!(Sp.wthn ((ps.getD e (0, 0)).1) ((ps.getD e (0, 0)).2) ((ps.getD f (0, 0)).1) ((ps.getD f (0, 0)).2) ((ps.getD t (0, 0)).1) ((ps.getD t (0, 0)).2) (Sp.mx tol 0))) with h2 | h2
  ·rcases Bool.eq_false_or_eq_true (decide ((((b : Nat) : Int) - 1) < 0)) with h3 | h3
   ·have h3p : (((((b : Nat) : Int) - 1) < 0)) := pB h3
    refine aw_d 891 (
     .a 2 2 <| .p (iX 24 19 20 0 0 ps.length 2 ((e : Nat) : Int) oO oO) <|
     .p (lD 29 21 0 (0 + (((e : Nat) : Int)).toNat * 2) ⟨(ps.flatMap ptc), 29, true, 2⟩ (.agg #[.int .i64 ((ps.getD e (0, 0)).1), .int .i64 ((ps.getD e (0, 0)).2)]) (qL (j := e) kK kK oO z28)) <|
     .a 2 2 <| .p (iX 24 23 24 0 0 ps.length 2 ((f : Nat) : Int) oO oO) <|
     .p (lD 29 25 0 (0 + (((f : Nat) : Int)).toNat * 2) ⟨(ps.flatMap ptc), 29, true, 2⟩ (.agg #[.int .i64 ((ps.getD f (0, 0)).1), .int .i64 ((ps.getD f (0, 0)).2)]) (qL (j := f) kK kK oO z28)) <|
     .a 2 2 <| .p (iX 24 27 28 0 0 ps.length 2 ((t : Nat) : Int) oO oO) <|
     .p (lD 29 29 0 (0 + (((t : Nat) : Int)).toNat * 2) ⟨(ps.flatMap ptc), 29, true, 2⟩ (.agg #[.int .i64 ((ps.getD t (0, 0)).1), .int .i64 ((ps.getD t (0, 0)).2)]) (qL (j := t) kK kK oO z28)) <|
     .a 2 2 <|
     .p (qC (gR ((ps.getD e (0, 0)).1) ((ps.getD e (0, 0)).2) ((ps.getD f (0, 0)).1) ((ps.getD f (0, 0)).2) ((ps.getD t (0, 0)).1) ((ps.getD t (0, 0)).2) (Sp.mx tol 0) oO oO oO oO oO oO oO oO oO oO oO oO)) <|
     .p (qN true (h2)) <| .a 2 2 <| .p (qN true (h3)) <| .e 20 2) ?_
    refine qR 1782<|qW (
     .a 1 2 <| .p (qJ (((e + 1 : Nat) : Int) - 1) ((show ((e : Nat) : Int) = (((e + 1 : Nat) : Int) - 1) from oO)) .i64) <| .nil _ _) ?_
    refine qW (
     .a 1 2 <| .p (qJ (((e : Nat) : Int) + 1) (wrap_i64 oO oO) .i64) <| .e 1 2) ?_
    exact al_w _ _ (ih1 ((e + 1), (e + 1)) (show (f + 1 ≤ (e + 1) ∧ (e + 1) ≤ t) ∧ (Sp.scn ps tol f t ((e + 1) - (f + 1)) = (e + 1)) ∧ ((e + 1) ≤ (e + 1)) from ⟨by omega, by (first | exact Sp.yP oO hb z38 | exact Sp.gS oO hb z37 oO | exact Sp.xW oO hb z37 aA | exact Sp.yQ oO hb oO aA), by omega⟩) (show t - (e + 1) < t - e from by omega)) (hc := z14)
   have h3p : ¬ (((((b : Nat) : Int) - 1) < 0)) := pB h3
   have fb := hf (b - 1)
   refine aw_d 891 (
    .a 2 2 <| .p (iX 24 19 20 0 0 ps.length 2 ((e : Nat) : Int) oO oO) <|
    .p (lD 29 21 0 (0 + (((e : Nat) : Int)).toNat * 2) ⟨(ps.flatMap ptc), 29, true, 2⟩ (.agg #[.int .i64 ((ps.getD e (0, 0)).1), .int .i64 ((ps.getD e (0, 0)).2)]) (qL (j := e) kK kK oO z28)) <|
    .a 2 2 <| .p (iX 24 23 24 0 0 ps.length 2 ((f : Nat) : Int) oO oO) <|
    .p (lD 29 25 0 (0 + (((f : Nat) : Int)).toNat * 2) ⟨(ps.flatMap ptc), 29, true, 2⟩ (.agg #[.int .i64 ((ps.getD f (0, 0)).1), .int .i64 ((ps.getD f (0, 0)).2)]) (qL (j := f) kK kK oO z28)) <|
    .a 2 2 <| .p (iX 24 27 28 0 0 ps.length 2 ((t : Nat) : Int) oO oO) <|
    .p (lD 29 29 0 (0 + (((t : Nat) : Int)).toNat * 2) ⟨(ps.flatMap ptc), 29, true, 2⟩ (.agg #[.int .i64 ((ps.getD t (0, 0)).1), .int .i64 ((ps.getD t (0, 0)).2)]) (qL (j := t) kK kK oO z28)) <|
    .a 2 2 <|
    .p (qC (gR ((ps.getD e (0, 0)).1) ((ps.getD e (0, 0)).2) ((ps.getD f (0, 0)).1) ((ps.getD f (0, 0)).2) ((ps.getD t (0, 0)).1) ((ps.getD t (0, 0)).2) (Sp.mx tol 0) oO oO oO oO oO oO oO oO oO oO oO oO)) <|
    .p (qN true (h2)) <| .a 2 2 <| .p (qN false (h3)) <| .a 3 2 <|
    .p (iX 24 39 40 0 0 ps.length 2 ((e : Nat) : Int) oO oO) <|
    .p (lD 29 41 0 (0 + (((e : Nat) : Int)).toNat * 2) ⟨(ps.flatMap ptc), 29, true, 2⟩ (.agg #[.int .i64 ((ps.getD e (0, 0)).1), .int .i64 ((ps.getD e (0, 0)).2)]) (qL (j := e) kK kK oO z28)) <|
    .a 1 2 <| .p (qJ ((b - 1 : Nat) : Int) ((show (((b : Nat) : Int) - 1) = ((b - 1 : Nat) : Int) from oO)) .i64) <|
    .p (iX 24 43 44 0 0 ps.length 2 ((b - 1 : Nat) : Int) oO oO) <|
    .p (lD 29 45 0 (0 + (((b - 1 : Nat) : Int)).toNat * 2) ⟨(ps.flatMap ptc), 29, true, 2⟩ (.agg #[.int .i64 ((ps.getD (b - 1) (0, 0)).1), .int .i64 ((ps.getD (b - 1) (0, 0)).2)]) (qL (j := (b - 1)) kK kK oO z28)) <|
    .a 2 2 <| .p (iX 24 47 48 0 0 ps.length 2 ((f : Nat) : Int) oO oO) <|
    .p (lD 29 49 0 (0 + (((f : Nat) : Int)).toNat * 2) ⟨(ps.flatMap ptc), 29, true, 2⟩ (.agg #[.int .i64 ((ps.getD f (0, 0)).1), .int .i64 ((ps.getD f (0, 0)).2)]) (qL (j := f) kK kK oO z28)) <|
    .a 2 2 <| .p (iX 24 51 52 0 0 ps.length 2 ((t : Nat) : Int) oO oO) <|
    .p (lD 29 53 0 (0 + (((t : Nat) : Int)).toNat * 2) ⟨(ps.flatMap ptc), 29, true, 2⟩ (.agg #[.int .i64 ((ps.getD t (0, 0)).1), .int .i64 ((ps.getD t (0, 0)).2)]) (qL (j := t) kK kK oO z28)) <|
    .p (qC (hV ((ps.getD e (0, 0)).1) ((ps.getD e (0, 0)).2) ((ps.getD (b - 1) (0, 0)).1) ((ps.getD (b - 1) (0, 0)).2) ((ps.getD f (0, 0)).1) ((ps.getD f (0, 0)).2) ((ps.getD t (0, 0)).1) ((ps.getD t (0, 0)).2) oO oO oO oO oO oO oO oO oO oO oO oO oO oO oO oO)) <|
    .e 2 2) ?_
   refine qY 1782 1783 (Sp.farB ((ps.getD e (0, 0)).1) ((ps.getD e (0, 0)).2) ((ps.getD (b - 1) (0, 0)).1) ((ps.getD (b - 1) (0, 0)).2) ((ps.getD f (0, 0)).1) ((ps.getD f (0, 0)).2) ((ps.getD t (0, 0)).1) ((ps.getD t (0, 0)).2)) (fun h4 => ?_) (fun h4 => ?_)
   ·refine qW (
     .a 1 2 <| .p (qJ (((e + 1 : Nat) : Int) - 1) ((show ((e : Nat) : Int) = (((e + 1 : Nat) : Int) - 1) from oO)) .i64) <| .nil _ _) ?_
    refine qW (
     .a 1 2 <| .p (qJ (((e : Nat) : Int) + 1) (wrap_i64 oO oO) .i64) <| .e 1 2) ?_
    exact al_w _ _ (ih1 ((e + 1), (e + 1)) (show (f + 1 ≤ (e + 1) ∧ (e + 1) ≤ t) ∧ (Sp.scn ps tol f t ((e + 1) - (f + 1)) = (e + 1)) ∧ ((e + 1) ≤ (e + 1)) from ⟨by omega, by (first | exact Sp.yP oO hb z38 | exact Sp.gS oO hb z37 oO | exact Sp.xW oO hb z37 aA | exact Sp.yQ oO hb oO aA), by omega⟩) (show t - (e + 1) < t - e from by omega)) (hc := z14)
   refine qH<|qW (
    .a 1 2 <| .p (qJ (((e : Nat) : Int) + 1) (wrap_i64 oO oO) .i64) <| .e 1 2) ?_
   exact al_w _ _ (ih1 ((e + 1), b) (show (f + 1 ≤ (e + 1) ∧ (e + 1) ≤ t) ∧ (Sp.scn ps tol f t ((e + 1) - (f + 1)) = b) ∧ (b ≤ (e + 1)) from ⟨by omega, by (first | exact Sp.yP oO hb z38 | exact Sp.gS oO hb z37 oO | exact Sp.xW oO hb z37 aA | exact Sp.yQ oO hb oO aA), by omega⟩) (show t - (e + 1) < t - e from by omega)) (hc := z14)
  refine aw_d 891 (
   .a 2 2 <| .p (iX 24 19 20 0 0 ps.length 2 ((e : Nat) : Int) oO oO) <|
   .p (lD 29 21 0 (0 + (((e : Nat) : Int)).toNat * 2) ⟨(ps.flatMap ptc), 29, true, 2⟩ (.agg #[.int .i64 ((ps.getD e (0, 0)).1), .int .i64 ((ps.getD e (0, 0)).2)]) (qL (j := e) kK kK oO z28)) <|
   .a 2 2 <| .p (iX 24 23 24 0 0 ps.length 2 ((f : Nat) : Int) oO oO) <|
   .p (lD 29 25 0 (0 + (((f : Nat) : Int)).toNat * 2) ⟨(ps.flatMap ptc), 29, true, 2⟩ (.agg #[.int .i64 ((ps.getD f (0, 0)).1), .int .i64 ((ps.getD f (0, 0)).2)]) (qL (j := f) kK kK oO z28)) <|
   .a 2 2 <| .p (iX 24 27 28 0 0 ps.length 2 ((t : Nat) : Int) oO oO) <|
   .p (lD 29 29 0 (0 + (((t : Nat) : Int)).toNat * 2) ⟨(ps.flatMap ptc), 29, true, 2⟩ (.agg #[.int .i64 ((ps.getD t (0, 0)).1), .int .i64 ((ps.getD t (0, 0)).2)]) (qL (j := t) kK kK oO z28)) <|
   .a 2 2 <|
   .p (qC (gR ((ps.getD e (0, 0)).1) ((ps.getD e (0, 0)).2) ((ps.getD f (0, 0)).1) ((ps.getD f (0, 0)).2) ((ps.getD t (0, 0)).1) ((ps.getD t (0, 0)).2) (Sp.mx tol 0) oO oO oO oO oO oO oO oO oO oO oO oO)) <|
   .p (qN false (h2)) <| .e 23 2) ?_
  refine qP 1783<|qH<|qW (
   .a 1 2 <| .p (qJ (((e : Nat) : Int) + 1) (wrap_i64 oO oO) .i64) <| .e 1 2) ?_
  exact al_w _ _ (ih1 ((e + 1), b) (show (f + 1 ≤ (e + 1) ∧ (e + 1) ≤ t) ∧ (Sp.scn ps tol f t ((e + 1) - (f + 1)) = b) ∧ (b ≤ (e + 1)) from ⟨by omega, by (first | exact Sp.yP oO hb z38 | exact Sp.gS oO hb z37 oO | exact Sp.xW oO hb z37 aA | exact Sp.yQ oO hb oO aA), by omega⟩) (show t - (e + 1) < t - e from by omega)) (hc := z14)
 have h1p : ¬ ((((e : Nat) : Int) < ((t : Nat) : Int))) := pB h1
 have het : e = t := by omega
 refine q5 0<|qG<|aw_w [(0, .slice (some ⟨0, 0, none⟩) ps.length 0), (1, .slice (some ⟨1, 0, none⟩) ps.length 0), (2, .int .i64 ((f : Nat) : Int)), (3, .int .i64 ((t : Nat) : Int)), (4, .int .i64 tol), (10, .int .i64 ((((m + 1) : Nat) : Int) - 1))] [(0, ⟨(ps.flatMap ptc), 29, true, 2⟩), (1, ⟨(kp.map boolv), 4, true, 1⟩)] ?_ (by obtain rfl : b = m + 1 := (by rw [← hb, het]; exact hs); kernel_rfl) (by obtain rfl : b = m + 1 := (by rw [← hb, het]; exact hs); kernel_rfl) (hc := z14)
 refine qD 14 15<|aw_p 29 (
  .a 1 2 <| .p (qN false ((show (decide (((((m + 1) : Nat) : Int) - 1) < 0)) = false from (decide_eq_false oO)))) <| .nil _ _) ?_
 refine qP 59<|qH<|aw_p 31 (
  .a 1 2 <| .p (qJ ((m : Nat) : Int) ((show ((((m + 1) : Nat) : Int) - 1) = ((m : Nat) : Int) from oO)) .i64) <|
  .p (iX 68 61 62 1 0 ps.length 1 ((m : Nat) : Int) oO oO) <|
  .p (j4 (t := 4) (x := .tmp 63) (y := .const (.bool true)) (k := 1) (off := (0 + (((m : Nat) : Int)).toNat * 1)) (b := ⟨(kp.map boolv), 4, true, 1⟩) (v := .bool true) (cells := ((kp.set m true).map boolv)) kK kK kK kK kK kK kK (Nat.ble_eq_true_of_le (by show _ + 1 ≤ (kp.map boolv).length; rw [List.length_map]; first | omega | (simp only [hk, List.length_set, Sp.yN]; omega))) (by rw [show (0 + (((m : Nat) : Int)).toNat * 1) = m from oO]; exact cH rfl)) <| .nil _ _) ?_
 refine aw_p 63 (
  .a 3 2 <| .p (qJ ((m : Nat) : Int) ((show ((((m + 1) : Nat) : Int) - 1) = ((m : Nat) : Int) from oO)) .i64) <| .a 1 2 <|
  .p (cB #[.tmp 64, .tmp 65, .tmp 66, .tmp 67, .tmp 68] #[24, 68, 3, 3, 3] [.slice (some ⟨0, 0, none⟩) ps.length 0, .slice (some ⟨1, 0, none⟩) ps.length 0, .int .i64 ((f : Nat) : Int), .int .i64 ((m : Nat) : Int), .int .i64 tol] 0 [(0, ⟨(ps.flatMap ptc), 29, true, 2⟩), (1, ⟨((kp.set m true).map boolv), 4, true, 1⟩)] [(0, ⟨(ps.flatMap ptc), 29, true, 2⟩), (1, ⟨((Sp.setJ (kp.set m true) J).map boolv), 4, true, 1⟩)] (.tuple #[]) [0, 1] (hA (kp.set m true) (by simp [Sp.yN, hk])) (.cons (.slice _ _ _ _ _ dD) (.cons (.slice _ _ _ _ _ dD) (.cons (.flatB kK) (.cons (.flatB kK) (.cons (.flatB kK) .nil))))) ⟨rfl, ⟨rfl, rfl, rfl, (.flats (qA _))⟩, rfl, ⟨rfl, rfl, rfl, (.flats (flats_map (fun _ => rfl) _))⟩, trivial⟩ ⟨rfl, ⟨rfl, rfl, rfl, (.flats (qA _))⟩, rfl, ⟨rfl, rfl, rfl, (.flats (flats_map (fun _ => rfl) _))⟩, trivial⟩ (.flatB kK)) <| .nil _ _) ?_
 refine qW (
  .a 2 2 <| .p (qJ ((m : Nat) : Int) ((show ((((m + 1) : Nat) : Int) - 1) = ((m : Nat) : Int) from oO)) .i64) <| .a 2 2 <|
  .p (cB #[.tmp 70, .tmp 71, .tmp 72, .tmp 73, .tmp 74] #[24, 68, 3, 3, 3] [.slice (some ⟨0, 0, none⟩) ps.length 0, .slice (some ⟨1, 0, none⟩) ps.length 0, .int .i64 ((m : Nat) : Int), .int .i64 ((t : Nat) : Int), .int .i64 tol] 0 [(0, ⟨(ps.flatMap ptc), 29, true, 2⟩), (1, ⟨((Sp.setJ (kp.set m true) J).map boolv), 4, true, 1⟩)] [(0, ⟨(ps.flatMap ptc), 29, true, 2⟩), (1, ⟨((Sp.setJ (Sp.setJ (kp.set m true) J) K).map boolv), 4, true, 1⟩)] (.tuple #[]) [0, 1] (hB (Sp.setJ (kp.set m true) J) (by simp [Sp.yN, hk])) (.cons (.slice _ _ _ _ _ dD) (.cons (.slice _ _ _ _ _ dD) (.cons (.flatB kK) (.cons (.flatB kK) (.cons (.flatB kK) .nil))))) ⟨rfl, ⟨rfl, rfl, rfl, (.flats (qA _))⟩, rfl, ⟨rfl, rfl, rfl, (.flats (flats_map (fun _ => rfl) _))⟩, trivial⟩ ⟨rfl, ⟨rfl, rfl, rfl, (.flats (qA _))⟩, rfl, ⟨rfl, rfl, rfl, (.flats (flats_map (fun _ => rfl) _))⟩, trivial⟩ (.flatB kK)) <| .nil _ _) ?_
 exact v8 [] kK
theorem mark_ok (ps : List (Int × Int)) (hf : Sp.Few 1048576 ps) (hz : ps.length ≤ 8796093021952) (tol : Int) {f t : Nat} {L : List Nat} (h : Sp.u4 ps tol f t L) : t < ps.length → ∀ kp : List Bool, kp.length = ps.length → AC Try.prog 57 2 [.slice (some ⟨0, 0, none⟩) ps.length 0, .slice (some ⟨1, 0, none⟩) ps.length 0, .int .i64 ((f : Nat) : Int), .int .i64 ((t : Nat) : Int), .int .i64 tol] [(0, ⟨(ps.flatMap ptc), 29, true, 2⟩), (1, ⟨(kp.map boolv), 4, true, 1⟩)] (.tuple #[]) [(0, ⟨(ps.flatMap ptc), 29, true, 2⟩), (1, ⟨((Sp.setJ kp L).map boolv), 4, true, 1⟩)] := by
  unfold Sp.u4 at h
  induction h with
  | @nil f t h hn =>
    intro ht kp hk
    rw [Sp.setJ_nil]
    exact mark_nil ps hf hz tol f t kp hk ⟨h, ht⟩ (Sp.scn_nil (.nil h hn))
  | @cons f m t J K h h1 h2 i1 i2 =>
    intro ht kp hk
    have q := mark_cons ps hf hz tol f t kp hk ⟨by have := h.1; omega, ht⟩ m J K h.1 (Sp.scn_cons h) (i1 (by have := h.1; omega)) (i2 ht)
    rw [Sp.setJ_cons (by have := h.1; omega)] at q
    exact q
open Go Go.Proofs
theorem tline_short_ro (ps qs : List (Int × Int)) (hq : ps.map Sp.lmP = qs) (hz : ps.length ≤ 8796093021952) (tol : Int) (h3 : qs.length < 3) :
    AC Try.prog 16 1 ([.slice (some ⟨0, 0, none⟩) ps.length 0, .int .i64 tol]) [(0, ⟨(ps.flatMap ptc), 29, false, 2⟩)] (.slice (some ⟨1, 0, none⟩) qs.length 0) [(1, ⟨(qs.flatMap ptc), 29, true, 2⟩)] := by
 have hql : qs.length = ps.length := z40; have hf : Sp.Few 1048576 qs := (hq ▸ Sp.fD ps)
 refine qK Try.func16 (fun w0 W pin => ?_)
 refine aw_e 3 1 1<|aw_p 7 (
  .a 2 1 <| .p (vS (kl := .i64) (kc := .i64) (n' := 0) (c' := ((ps.length : Nat) : Int)) 1 29 2 16 0 ps.length (.agg #[.int .i64 0, .int .i64 0]) [] kK kK kK kK dD rfl oO oO oO) <| .e 1 2) ?_
 refine qD 14 15<|aw_e 29 3 2<|qM 0 59<|q6 119<|al_w _ _ (jS (fun i : Nat => (fun (i : Nat) => mkSt 1 [(1, .int .i64 tol), (5, .slice (some ⟨1, 0, none⟩) i 0), (15, .slice (some ⟨0, 0, none⟩) ps.length 0), (16, .int .i64 ((ps.length : Nat) : Int)), (17, .int .i64 ((i : Nat) : Int))] [(0, ⟨(ps.flatMap ptc), 29, false, 2⟩), (1, ⟨(((ps.take i).map Sp.lmP).flatMap ptc), 29, true, 2⟩)]) i) (fun i : Nat => (fun (i : Nat) => (i ≤ ps.length)) i) (fun i : Nat => (fun (i : Nat) => ps.length - i) i) (fun i hi1 ih1 => ?_) 0 (show (0 ≤ ps.length) from by omega)) (hc := z14)
 obtain ⟨i, hv1⟩ : ∃ z, z = i := ⟨i, rfl⟩; subst hv1
 have hi1' : (i ≤ ps.length) := hi1
 have hi : i ≤ ps.length := hi1'
 show AL _ _ _ (mkSt _ _ _) _
 refine qE<|aw_e 239 1 2<|qD 478 479<|qY 956 957 (decide (((i : Nat) : Int) < ((ps.length : Nat) : Int))) (fun h1 => ?_) (fun h1 => ?_)
 ·have h1p : ((((i : Nat) : Int) < ((ps.length : Nat) : Int))) := pB h1
  have hil : i < ps.length := by omega
  refine qH<|qD 958 959<|qM 1 1917<|aw_p 3835 (
   .p (iX 24 15 17 0 0 ps.length 2 ((i : Nat) : Int) oO oO) <|
   .p (lD 29 19 0 (0 + (((i : Nat) : Int)).toNat * 2) ⟨(ps.flatMap ptc), 29, false, 2⟩ (.agg #[.int .i64 ((ps.getD i (0, 0)).1), .int .i64 ((ps.getD i (0, 0)).2)]) (qL (j := i) kK kK oO z48)) <|
   .e 2 2) ?_
  refine qW (
   .a 2 3 <| .p (qC (j6 ((ps.getD i (0, 0)).1) ((ps.getD i (0, 0)).2))) <| .a 1 3 <|
   .p (j2 4 29 2 16 1 i 3 1 ⟨(((ps.take i).map Sp.lmP).flatMap ptc), 29, true, 2⟩ ⟨[.int .i64 (Sp.lim 1048576 ((ps.getD i (0, 0)).1)), .int .i64 (Sp.lim 1048576 ((ps.getD i (0, 0)).2))], 29, true, 2⟩ (((ps.take (i + 1)).map Sp.lmP).flatMap ptc) kK kK kK kK kK z23 oO oO (Sp.y5 hil rfl)) <|
   .e 1 5) ?_
  refine qW (
   .p (qJ (((i : Nat) : Int) + 1) (wrap_i64 oO oO) .i64) <| .e 1 5) ?_
  refine al_r [(1, 4)] [(1, .int .i64 tol), (5, .slice (some ⟨4, 0, none⟩) (i + 1) 0), (15, .slice (some ⟨0, 0, none⟩) ps.length 0), (16, .int .i64 ((ps.length : Nat) : Int)), (17, .int .i64 (((i + 1) : Nat) : Int))] [(0, ⟨(ps.flatMap ptc), 29, false, 2⟩), (4, ⟨(((ps.take (i + 1)).map Sp.lmP).flatMap ptc), 29, true, 2⟩)] [(1, .int .i64 tol), (5, .slice (some ⟨1, 0, none⟩) (i + 1) 0), (15, .slice (some ⟨0, 0, none⟩) ps.length 0), (16, .int .i64 ((ps.length : Nat) : Int)), (17, .int .i64 (((i + 1) : Nat) : Int))] [(0, ⟨(ps.flatMap ptc), 29, false, 2⟩), (1, ⟨(((ps.take (i + 1)).map Sp.lmP).flatMap ptc), 29, true, 2⟩)] ?_ ⟨rfl, (.flatB kK), rfl, (.slice _ _ _ _ _ rfl), rfl, (.slice _ _ _ _ _ rfl), rfl, (.flatB kK), rfl, (.flatB kK), trivial⟩ ⟨rfl, ⟨rfl, rfl, rfl, (.flats (qA _))⟩, rfl, ⟨rfl, rfl, rfl, (.flats (qA _))⟩, trivial⟩
  exact ih1 (i + 1) (show ((i + 1) ≤ ps.length) from by omega) (show ps.length - (i + 1) < ps.length - i from by omega)
 have h1p : ¬ ((((i : Nat) : Int) < ((ps.length : Nat) : Int))) := pB h1
 have hin : i = ps.length := by omega
 refine q5 0<|qG<|aw_w [(1, .int .i64 tol), (5, .slice (some ⟨1, 0, none⟩) qs.length 0)] [(0, ⟨(ps.flatMap ptc), 29, false, 2⟩), (1, ⟨(qs.flatMap ptc), 29, true, 2⟩)] ?_ z16 z16 (hc := z14)
 refine qD 30 31<|aw_p 61 (
  .a 2 2 <| .p (qN true ((show (decide (((qs.length : Nat) : Int) < 3)) = true from decide_eq_true oO))) <| .nil _ _) ?_
 exact qR 122<|aw_e 245 2 2<|qF<|qB [.slice (some ⟨1, 0, none⟩) qs.length 0] kK
theorem tline_long_ro (ps qs ys : List (Int × Int)) (hq : ps.map Sp.lmP = qs) (hz : ps.length ≤ 8796093021952) (tol : Int) (h3 : 3 ≤ qs.length) (J : List Nat) (hJ : Sp.u4 qs tol 0 (qs.length - 1) J) (hy : Sp.slF qs (Sp.setJ (Sp.kp0 qs.length) J) qs.length = ys) :
    AC Try.prog 16 1 ([.slice (some ⟨0, 0, none⟩) ps.length 0, .int .i64 tol]) [(0, ⟨(ps.flatMap ptc), 29, false, 2⟩)] (.slice (some ⟨1, 0, none⟩) ys.length 0) [(1, ⟨(ys.flatMap ptc), 29, true, 2⟩)] := by
 have hql : qs.length = ps.length := z40; have hf : Sp.Few 1048576 qs := (hq ▸ Sp.fD ps)
 refine qK Try.func16 (fun w0 W pin => ?_)
 refine aw_e 3 1 1<|aw_p 7 (
  .a 2 1 <| .p (vS (kl := .i64) (kc := .i64) (n' := 0) (c' := ((ps.length : Nat) : Int)) 1 29 2 16 0 ps.length (.agg #[.int .i64 0, .int .i64 0]) [] kK kK kK kK dD rfl oO oO oO) <| .e 1 2) ?_
 refine qD 14 15<|aw_e 29 3 2<|qM 0 59<|q6 119<|al_w _ _ (jS (fun i : Nat => (fun (i : Nat) => mkSt 1 [(1, .int .i64 tol), (5, .slice (some ⟨1, 0, none⟩) i 0), (15, .slice (some ⟨0, 0, none⟩) ps.length 0), (16, .int .i64 ((ps.length : Nat) : Int)), (17, .int .i64 ((i : Nat) : Int))] [(0, ⟨(ps.flatMap ptc), 29, false, 2⟩), (1, ⟨(((ps.take i).map Sp.lmP).flatMap ptc), 29, true, 2⟩)]) i) (fun i : Nat => (fun (i : Nat) => (i ≤ ps.length)) i) (fun i : Nat => (fun (i : Nat) => ps.length - i) i) (fun i hi1 ih1 => ?_) 0 (show (0 ≤ ps.length) from by omega)) (hc := z14)
 obtain ⟨i, hv1⟩ : ∃ z, z = i := ⟨i, rfl⟩; subst hv1
 have hi1' : (i ≤ ps.length) := hi1
 have hi : i ≤ ps.length := hi1'
 show AL _ _ _ (mkSt _ _ _) _
 refine qE<|aw_e 239 1 2<|qD 478 479<|qY 956 957 (decide (((i : Nat) : Int) < ((ps.length : Nat) : Int))) (fun h1 => ?_) (fun h1 => ?_)
 ·have h1p : ((((i : Nat) : Int) < ((ps.length : Nat) : Int))) := pB h1
  have hil : i < ps.length := by omega
  refine qH<|qD 958 959<|qM 1 1917<|aw_p 3835 (
   .p (iX 24 15 17 0 0 ps.length 2 ((i : Nat) : Int) oO oO) <|
   .p (lD 29 19 0 (0 + (((i : Nat) : Int)).toNat * 2) ⟨(ps.flatMap ptc), 29, false, 2⟩ (.agg #[.int .i64 ((ps.getD i (0, 0)).1), .int .i64 ((ps.getD i (0, 0)).2)]) (qL (j := i) kK kK oO z48)) <|
   .e 2 2) ?_
  refine qW (
   .a 2 3 <| .p (qC (j6 ((ps.getD i (0, 0)).1) ((ps.getD i (0, 0)).2))) <| .a 1 3 <|
   .p (j2 4 29 2 16 1 i 3 1 ⟨(((ps.take i).map Sp.lmP).flatMap ptc), 29, true, 2⟩ ⟨[.int .i64 (Sp.lim 1048576 ((ps.getD i (0, 0)).1)), .int .i64 (Sp.lim 1048576 ((ps.getD i (0, 0)).2))], 29, true, 2⟩ (((ps.take (i + 1)).map Sp.lmP).flatMap ptc) kK kK kK kK kK z23 oO oO (Sp.y5 hil rfl)) <|
   .e 1 5) ?_
  refine qW (
   .p (qJ (((i : Nat) : Int) + 1) (wrap_i64 oO oO) .i64) <| .e 1 5) ?_
  refine al_r [(1, 4)] [(1, .int .i64 tol), (5, .slice (some ⟨4, 0, none⟩) (i + 1) 0), (15, .slice (some ⟨0, 0, none⟩) ps.length 0), (16, .int .i64 ((ps.length : Nat) : Int)), (17, .int .i64 (((i + 1) : Nat) : Int))] [(0, ⟨(ps.flatMap ptc), 29, false, 2⟩), (4, ⟨(((ps.take (i + 1)).map Sp.lmP).flatMap ptc), 29, true, 2⟩)] [(1, .int .i64 tol), (5, .slice (some ⟨1, 0, none⟩) (i + 1) 0), (15, .slice (some ⟨0, 0, none⟩) ps.length 0), (16, .int .i64 ((ps.length : Nat) : Int)), (17, .int .i64 (((i + 1) : Nat) : Int))] [(0, ⟨(ps.flatMap ptc), 29, false, 2⟩), (1, ⟨(((ps.take (i + 1)).map Sp.lmP).flatMap ptc), 29, true, 2⟩)] ?_ ⟨rfl, (.flatB kK), rfl, (.slice _ _ _ _ _ rfl), rfl, (.slice _ _ _ _ _ rfl), rfl, (.flatB kK), rfl, (.flatB kK), trivial⟩ ⟨rfl, ⟨rfl, rfl, rfl, (.flats (qA _))⟩, rfl, ⟨rfl, rfl, rfl, (.flats (qA _))⟩, trivial⟩
  exact ih1 (i + 1) (show ((i + 1) ≤ ps.length) from by omega) (show ps.length - (i + 1) < ps.length - i from by omega)
 have h1p : ¬ ((((i : Nat) : Int) < ((ps.length : Nat) : Int))) := pB h1
 have hin : i = ps.length := by omega
 refine q5 0<|qG<|aw_w [(1, .int .i64 tol), (5, .slice (some ⟨1, 0, none⟩) qs.length 0)] [(0, ⟨(ps.flatMap ptc), 29, false, 2⟩), (1, ⟨(qs.flatMap ptc), 29, true, 2⟩)] ?_ z16 z16 (hc := z14)
 refine qD 30 31<|aw_p 61 (
  .a 2 2 <| .p (qN false ((show (decide (((qs.length : Nat) : Int) < 3)) = false from decide_eq_false oO))) <| .nil _ _) ?_
 refine qP 123<|qH<|aw_p 63 (
  .a 2 2 <|
  .p (vS (kl := .i64) (kc := .i64) (n' := ((qs.length : Nat) : Int)) (c' := ((qs.length : Nat) : Int)) 2 4 1 1 qs.length qs.length (.bool false) ((List.replicate qs.length false).map boolv) kK kK (hC _) (p6 _) rfl rfl (Nat.le_refl _) oO oO) <|
  .e 1 3) ?_
 refine aw_p 127 (
  .a 4 3 <| .p (qJ ((qs.length - 1 : Nat) : Int) ((show (IntKind.wrap .i64 (((qs.length : Nat) : Int) - 1)) = ((qs.length - 1 : Nat) : Int) from ((wrap_i64 oO oO).trans oO))) .i64) <|
  .p (q7 (t := 68) (x := .tmp 34) (y := .const (.int .i64 0)) (k := 2) (off := 0) (n := qs.length) (c := 0) (z := 1) (kd := .i64) (j := 0) kK kK kK kK kK oO oO) <|
  .p (j4 (t := 4) (x := .tmp 39) (y := .const (.bool true)) (k := 2) (off := 0) (b := ⟨((List.replicate qs.length false).map boolv), 4, true, 1⟩) (v := .bool true) (cells := (((List.replicate qs.length false).set 0 true).map boolv)) kK kK kK kK kK kK kK (Nat.ble_eq_true_of_le z13) (by rw [show 0 = 0 from oO]; exact cH rfl)) <|
  .p (iX 68 35 38 2 0 qs.length 1 ((qs.length - 1 : Nat) : Int) oO oO) <|
  .p (j4 (t := 4) (x := .tmp 40) (y := .const (.bool true)) (k := 2) (off := (0 + (((qs.length - 1 : Nat) : Int)).toNat * 1)) (b := ⟨(((List.replicate qs.length false).set 0 true).map boolv), 4, true, 1⟩) (v := .bool true) (cells := ((((List.replicate qs.length false).set 0 true).set (qs.length - 1) true).map boolv)) kK kK kK kK kK kK kK (Nat.ble_eq_true_of_le z12) (by rw [show (0 + (((qs.length - 1 : Nat) : Int)).toNat * 1) = (qs.length - 1) from oO]; exact cH rfl)) <| .nil _ _) ?_
 refine aw_p 255 (
  .a 4 3 <| .p (qJ ((qs.length - 1 : Nat) : Int) ((show (IntKind.wrap .i64 (((qs.length : Nat) : Int) - 1)) = ((qs.length - 1 : Nat) : Int) from ((wrap_i64 oO oO).trans oO))) .i64) <| .a 1 3 <|
  .p (cB #[.tmp 41, .tmp 42, .const (.int .i64 0), .tmp 45, .tmp 46] #[24, 68, 3, 3, 3] [.slice (some ⟨1, 0, none⟩) qs.length 0, .slice (some ⟨2, 0, none⟩) qs.length 0, .int .i64 0, .int .i64 ((qs.length - 1 : Nat) : Int), .int .i64 tol] 0 [(1, ⟨(qs.flatMap ptc), 29, true, 2⟩), (2, ⟨((((List.replicate qs.length false).set 0 true).set (qs.length - 1) true).map boolv), 4, true, 1⟩)] [(1, ⟨(qs.flatMap ptc), 29, true, 2⟩), (2, ⟨((Sp.setJ (Sp.kp0 qs.length) J).map boolv), 4, true, 1⟩)] (.tuple #[]) [1, 2] (mark_ok qs hf oO tol hJ oO (Sp.kp0 qs.length) (Sp.s8 _)) (.cons (.slice _ _ _ _ _ dD) (.cons (.slice _ _ _ _ _ dD) (.cons (.flatB kK) (.cons (.flatB kK) (.cons (.flatB kK) .nil))))) ⟨rfl, ⟨rfl, rfl, rfl, (.flats (qA _))⟩, rfl, ⟨rfl, rfl, rfl, (.flats (flats_map (fun _ => rfl) _))⟩, trivial⟩ ⟨rfl, ⟨rfl, rfl, rfl, (.flats (qA _))⟩, rfl, ⟨rfl, rfl, rfl, (.flats (flats_map (fun _ => rfl) _))⟩, trivial⟩ (.flatB kK)) <| .nil _ _) ?_
 refine aw_p 511 (
  .a 2 3 <| .p (vS (kl := .i64) (kc := .i64) (n' := 0) (c' := ((qs.length : Nat) : Int)) 3 29 2 16 0 qs.length (.agg #[.int .i64 0, .int .i64 0]) [] kK kK kK kK dD rfl oO oO oO) <| .e 1 4) ?_
 refine qD 1022 1023<|aw_e 2045 3 4<|qM 2 4091<|q6 8183<|al_w _ _ (jS (fun i : Nat => (fun (i : Nat) => mkSt 1 [(8, .slice (some ⟨2, 0, none⟩) qs.length 0), (9, .slice (some ⟨3, 0, none⟩) ((Sp.slF qs (Sp.setJ (Sp.kp0 qs.length) J) i).length) 0), (51, .slice (some ⟨1, 0, none⟩) qs.length 0), (52, .int .i64 ((qs.length : Nat) : Int)), (53, .int .i64 ((i : Nat) : Int))] [(0, ⟨(ps.flatMap ptc), 29, false, 2⟩), (1, ⟨(qs.flatMap ptc), 29, true, 2⟩), (2, ⟨((Sp.setJ (Sp.kp0 qs.length) J).map boolv), 4, true, 1⟩), (3, ⟨((Sp.slF qs (Sp.setJ (Sp.kp0 qs.length) J) i).flatMap ptc), 29, true, 2⟩)]) i) (fun i : Nat => (fun (i : Nat) => (i ≤ qs.length) ∧ ((Sp.slF qs (Sp.setJ (Sp.kp0 qs.length) J) i).length ≤ i)) i) (fun i : Nat => (fun (i : Nat) => qs.length - i) i) (fun i hi2 ih2 => ?_) 0 (show (0 ≤ qs.length) ∧ ((Sp.slF qs (Sp.setJ (Sp.kp0 qs.length) J) 0).length ≤ 0) from ⟨by omega, by exact Nat.le_refl _⟩)) (hc := z14)
 obtain ⟨i, hv2⟩ : ∃ z, z = i := ⟨i, rfl⟩; subst hv2
 have hi2' : (i ≤ qs.length) ∧ ((Sp.slF qs (Sp.setJ (Sp.kp0 qs.length) J) i).length ≤ i) := hi2
 obtain ⟨hi, hsl⟩ := hi2'
 show AL _ _ _ (mkSt _ _ _) _
 refine qE<|aw_e 16367 1 4<|qD 32734 32735<|qY 65468 65469 (decide (((i : Nat) : Int) < ((qs.length : Nat) : Int))) (fun h2 => ?_) (fun h2 => ?_)
 ·have h2p : ((((i : Nat) : Int) < ((qs.length : Nat) : Int))) := pB h2
  have hil : i < qs.length := by omega
  refine qH<|qD 65470 65471<|qM 3 130941<|aw_p 261883 (
   .a 1 4 <| .p (iX 24 51 53 1 0 qs.length 2 ((i : Nat) : Int) oO oO) <|
   .p (lD 29 56 1 (0 + (((i : Nat) : Int)).toNat * 2) ⟨(qs.flatMap ptc), 29, true, 2⟩ (.agg #[.int .i64 ((qs.getD i (0, 0)).1), .int .i64 ((qs.getD i (0, 0)).2)]) (qL (j := i) kK kK oO z48)) <|
   .e 3 4) ?_
  refine aw_p 523767 (
   .a 2 5 <| .p (iX 68 58 59 2 0 qs.length 1 ((i : Nat) : Int) oO oO) <|
   .p (lD 4 60 2 (0 + (((i : Nat) : Int)).toNat * 1) ⟨((Sp.setJ (Sp.kp0 qs.length) J).map boolv), 4, true, 1⟩ (.bool ((Sp.setJ (Sp.kp0 qs.length) J).getD i false)) z7) <| .nil _ _) ?_
  refine qY 1047534 1047535 ((Sp.setJ (Sp.kp0 qs.length) J).getD i false) (fun h3 => ?_) (fun h3 => ?_)
  ·refine qW (
    .a 3 5 <|
    .p (j2 6 29 2 16 3 ((Sp.slF qs (Sp.setJ (Sp.kp0 qs.length) J) i).length) 5 1 ⟨((Sp.slF qs (Sp.setJ (Sp.kp0 qs.length) J) i).flatMap ptc), 29, true, 2⟩ ⟨[.int .i64 ((qs.getD i (0, 0)).1), .int .i64 ((qs.getD i (0, 0)).2)], 29, true, 2⟩ ((Sp.slF qs (Sp.setJ (Sp.kp0 qs.length) J) (i + 1)).flatMap ptc) kK kK kK kK kK (by show ((Sp.slF qs (Sp.setJ (Sp.kp0 qs.length) J) i).flatMap ptc).length = _; rw [pairs_length]; omega) oO oO (by rw [Sp.slF_y (ps := qs) (kp := (Sp.setJ (Sp.kp0 qs.length) J)) (n := i) aA]; simp [ptc, pairs_length])) <|
    .e 1 7) ?_
   refine aw_w [(8, .slice (some ⟨2, 0, none⟩) qs.length 0), (9, .slice (some ⟨6, 0, none⟩) ((Sp.slF qs (Sp.setJ (Sp.kp0 qs.length) J) (i + 1)).length) 0), (10, .int .i64 ((i : Nat) : Int)), (11, .pointer (some ⟨4, 0, none⟩)), (51, .slice (some ⟨1, 0, none⟩) qs.length 0), (52, .int .i64 ((qs.length : Nat) : Int)), (53, .int .i64 ((i : Nat) : Int)), (54, .bool (decide (((i : Nat) : Int) < ((qs.length : Nat) : Int)))), (61, .bool ((Sp.setJ (Sp.kp0 qs.length) J).getD i false))] [(0, ⟨(ps.flatMap ptc), 29, false, 2⟩), (1, ⟨(qs.flatMap ptc), 29, true, 2⟩), (2, ⟨((Sp.setJ (Sp.kp0 qs.length) J).map boolv), 4, true, 1⟩), (4, ⟨[.int .i64 ((qs.getD i (0, 0)).1), .int .i64 ((qs.getD i (0, 0)).2)], 29, true, 2⟩), (6, ⟨((Sp.slF qs (Sp.setJ (Sp.kp0 qs.length) J) (i + 1)).flatMap ptc), 29, true, 2⟩)] ?_ z19 z19 (hc := z14)
   refine qW (
    .p (qJ (((i : Nat) : Int) + 1) (wrap_i64 oO oO) .i64) <| .e 1 7) ?_
   refine al_r [(3, 6)] [(8, .slice (some ⟨2, 0, none⟩) qs.length 0), (9, .slice (some ⟨6, 0, none⟩) ((Sp.slF qs (Sp.setJ (Sp.kp0 qs.length) J) (i + 1)).length) 0), (51, .slice (some ⟨1, 0, none⟩) qs.length 0), (52, .int .i64 ((qs.length : Nat) : Int)), (53, .int .i64 (((i + 1) : Nat) : Int))] [(0, ⟨(ps.flatMap ptc), 29, false, 2⟩), (1, ⟨(qs.flatMap ptc), 29, true, 2⟩), (2, ⟨((Sp.setJ (Sp.kp0 qs.length) J).map boolv), 4, true, 1⟩), (6, ⟨((Sp.slF qs (Sp.setJ (Sp.kp0 qs.length) J) (i + 1)).flatMap ptc), 29, true, 2⟩)] [(8, .slice (some ⟨2, 0, none⟩) qs.length 0), (9, .slice (some ⟨3, 0, none⟩) ((Sp.slF qs (Sp.setJ (Sp.kp0 qs.length) J) (i + 1)).length) 0), (51, .slice (some ⟨1, 0, none⟩) qs.length 0), (52, .int .i64 ((qs.length : Nat) : Int)), (53, .int .i64 (((i + 1) : Nat) : Int))] [(0, ⟨(ps.flatMap ptc), 29, false, 2⟩), (1, ⟨(qs.flatMap ptc), 29, true, 2⟩), (2, ⟨((Sp.setJ (Sp.kp0 qs.length) J).map boolv), 4, true, 1⟩), (3, ⟨((Sp.slF qs (Sp.setJ (Sp.kp0 qs.length) J) (i + 1)).flatMap ptc), 29, true, 2⟩)] ?_ ⟨rfl, (.slice _ _ _ _ _ rfl), rfl, (.slice _ _ _ _ _ rfl), rfl, (.slice _ _ _ _ _ rfl), rfl, (.flatB kK), rfl, (.flatB kK), trivial⟩ ⟨rfl, ⟨rfl, rfl, rfl, (.flats (qA _))⟩, rfl, ⟨rfl, rfl, rfl, (.flats (qA _))⟩, rfl, ⟨rfl, rfl, rfl, (.flats (flats_map (fun _ => rfl) _))⟩, rfl, ⟨rfl, rfl, rfl, (.flats (qA _))⟩, trivial⟩
   exact ih2 (i + 1) (show ((i + 1) ≤ qs.length) ∧ ((Sp.slF qs (Sp.setJ (Sp.kp0 qs.length) J) (i + 1)).length ≤ (i + 1)) from ⟨by omega, by exact Sp.mN _ _ _⟩) (show qs.length - (i + 1) < qs.length - i from by omega)
  refine qH<|aw_w [(8, .slice (some ⟨2, 0, none⟩) qs.length 0), (9, .slice (some ⟨3, 0, none⟩) ((Sp.slF qs (Sp.setJ (Sp.kp0 qs.length) J) (i + 1)).length) 0), (10, .int .i64 ((i : Nat) : Int)), (11, .pointer (some ⟨4, 0, none⟩)), (51, .slice (some ⟨1, 0, none⟩) qs.length 0), (52, .int .i64 ((qs.length : Nat) : Int)), (53, .int .i64 ((i : Nat) : Int)), (54, .bool (decide (((i : Nat) : Int) < ((qs.length : Nat) : Int)))), (61, .bool ((Sp.setJ (Sp.kp0 qs.length) J).getD i false))] [(0, ⟨(ps.flatMap ptc), 29, false, 2⟩), (1, ⟨(qs.flatMap ptc), 29, true, 2⟩), (2, ⟨((Sp.setJ (Sp.kp0 qs.length) J).map boolv), 4, true, 1⟩), (3, ⟨((Sp.slF qs (Sp.setJ (Sp.kp0 qs.length) J) (i + 1)).flatMap ptc), 29, true, 2⟩), (4, ⟨[.int .i64 ((qs.getD i (0, 0)).1), .int .i64 ((qs.getD i (0, 0)).2)], 29, true, 2⟩)] ?_ z21 z21 (hc := z14)
  refine qW (
   .p (qJ (((i : Nat) : Int) + 1) (wrap_i64 oO oO) .i64) <| .e 1 5) ?_
  exact al_w _ _ (ih2 (i + 1) (show ((i + 1) ≤ qs.length) ∧ ((Sp.slF qs (Sp.setJ (Sp.kp0 qs.length) J) (i + 1)).length ≤ (i + 1)) from ⟨by omega, by exact Sp.mN _ _ _⟩) (show qs.length - (i + 1) < qs.length - i from by omega)) (hc := z14)
 have h2p : ¬ ((((i : Nat) : Int) < ((qs.length : Nat) : Int))) := pB h2
 have hin : i = qs.length := by omega
 refine q5 2<|qG<|aw_w [(9, .slice (some ⟨3, 0, none⟩) ys.length 0)] [(0, ⟨(ps.flatMap ptc), 29, false, 2⟩), (3, ⟨(ys.flatMap ptc), 29, true, 2⟩)] ?_ (by (try rw [← hy, ← hin]); kernel_rfl) (by (try rw [← hy, ← hin]); kernel_rfl) (hc := z14)
 refine aw_e 2047 2 4<|aw_r [(1, 3)] [(4, .slice (some ⟨3, 0, none⟩) ys.length 0)] [(0, ⟨(ps.flatMap ptc), 29, false, 2⟩), (3, ⟨(ys.flatMap ptc), 29, true, 2⟩)] [(4, .slice (some ⟨1, 0, none⟩) ys.length 0)] [(0, ⟨(ps.flatMap ptc), 29, false, 2⟩), (1, ⟨(ys.flatMap ptc), 29, true, 2⟩)] ?_ ⟨rfl, (.slice _ _ _ _ _ rfl), trivial⟩ ⟨rfl, ⟨rfl, rfl, rfl, (.flats (qA _))⟩, rfl, ⟨rfl, rfl, rfl, (.flats (qA _))⟩, trivial⟩
 exact qF<|qB [.slice (some ⟨1, 0, none⟩) ys.length 0] kK
theorem dX (ps qs : List (Int × Int)) (hq : ps.map Sp.lmP = qs) (hz : ps.length ≤ 8796093021952) (tol : Int) (h3 : qs.length < 3) :
    AC Try.prog 16 1 ([.slice (some ⟨0, 0, none⟩) ps.length 0, .int .i64 tol]) [(0, ⟨(ps.flatMap ptc), 29, true, 2⟩)] (.slice (some ⟨1, 0, none⟩) qs.length 0) [(0, ⟨(ps.flatMap ptc), 29, true, 2⟩), (1, ⟨(qs.flatMap ptc), 29, true, 2⟩)] := by
 have hql : qs.length = ps.length := z40; have hf : Sp.Few 1048576 qs := (hq ▸ Sp.fD ps)
 refine qK Try.func16 (fun w0 W pin => ?_)
 refine aw_e 3 1 1<|aw_p 7 (
  .a 2 1 <| .p (vS (kl := .i64) (kc := .i64) (n' := 0) (c' := ((ps.length : Nat) : Int)) 1 29 2 16 0 ps.length (.agg #[.int .i64 0, .int .i64 0]) [] kK kK kK kK dD rfl oO oO oO) <| .e 1 2) ?_
 refine qD 14 15<|aw_e 29 3 2<|qM 0 59<|q6 119<|al_w _ _ (jS (fun i : Nat => (fun (i : Nat) => mkSt 1 [(1, .int .i64 tol), (5, .slice (some ⟨1, 0, none⟩) i 0), (15, .slice (some ⟨0, 0, none⟩) ps.length 0), (16, .int .i64 ((ps.length : Nat) : Int)), (17, .int .i64 ((i : Nat) : Int))] [(0, ⟨(ps.flatMap ptc), 29, true, 2⟩), (1, ⟨(((ps.take i).map Sp.lmP).flatMap ptc), 29, true, 2⟩)]) i) (fun i : Nat => (fun (i : Nat) => (i ≤ ps.length)) i) (fun i : Nat => (fun (i : Nat) => ps.length - i) i) (fun i hi1 ih1 => ?_) 0 (show (0 ≤ ps.length) from by omega)) (hc := z14)
 obtain ⟨i, hv1⟩ : ∃ z, z = i := ⟨i, rfl⟩; subst hv1
 have hi1' : (i ≤ ps.length) := hi1
 have hi : i ≤ ps.length := hi1'
 show AL _ _ _ (mkSt _ _ _) _
 refine qE<|aw_e 239 1 2<|qD 478 479<|qY 956 957 (decide (((i : Nat) : Int) < ((ps.length : Nat) : Int))) (fun h1 => ?_) (fun h1 => ?_)
 ·have h1p : ((((i : Nat) : Int) < ((ps.length : Nat) : Int))) := pB h1
  have hil : i < ps.length := by omega
  refine qH<|qD 958 959<|qM 1 1917<|aw_p 3835 (
   .p (iX 24 15 17 0 0 ps.length 2 ((i : Nat) : Int) oO oO) <|
   .p (lD 29 19 0 (0 + (((i : Nat) : Int)).toNat * 2) ⟨(ps.flatMap ptc), 29, true, 2⟩ (.agg #[.int .i64 ((ps.getD i (0, 0)).1), .int .i64 ((ps.getD i (0, 0)).2)]) (qL (j := i) kK kK oO z48)) <|
   .e 2 2) ?_
  refine qW (
   .a 2 3 <| .p (qC (j6 ((ps.getD i (0, 0)).1) ((ps.getD i (0, 0)).2))) <| .a 1 3 <|
   .p (j2 4 29 2 16 1 i 3 1 ⟨(((ps.take i).map Sp.lmP).flatMap ptc), 29, true, 2⟩ ⟨[.int .i64 (Sp.lim 1048576 ((ps.getD i (0, 0)).1)), .int .i64 (Sp.lim 1048576 ((ps.getD i (0, 0)).2))], 29, true, 2⟩ (((ps.take (i + 1)).map Sp.lmP).flatMap ptc) kK kK kK kK kK z23 oO oO (Sp.y5 hil rfl)) <|
   .e 1 5) ?_
  refine qW (
   .p (qJ (((i : Nat) : Int) + 1) (wrap_i64 oO oO) .i64) <| .e 1 5) ?_
  refine al_r [(1, 4)] [(1, .int .i64 tol), (5, .slice (some ⟨4, 0, none⟩) (i + 1) 0), (15, .slice (some ⟨0, 0, none⟩) ps.length 0), (16, .int .i64 ((ps.length : Nat) : Int)), (17, .int .i64 (((i + 1) : Nat) : Int))] [(0, ⟨(ps.flatMap ptc), 29, true, 2⟩), (4, ⟨(((ps.take (i + 1)).map Sp.lmP).flatMap ptc), 29, true, 2⟩)] [(1, .int .i64 tol), (5, .slice (some ⟨1, 0, none⟩) (i + 1) 0), (15, .slice (some ⟨0, 0, none⟩) ps.length 0), (16, .int .i64 ((ps.length : Nat) : Int)), (17, .int .i64 (((i + 1) : Nat) : Int))] [(0, ⟨(ps.flatMap ptc), 29, true, 2⟩), (1, ⟨(((ps.take (i + 1)).map Sp.lmP).flatMap ptc), 29, true, 2⟩)] ?_ ⟨rfl, (.flatB kK), rfl, (.slice _ _ _ _ _ rfl), rfl, (.slice _ _ _ _ _ rfl), rfl, (.flatB kK), rfl, (.flatB kK), trivial⟩ ⟨rfl, ⟨rfl, rfl, rfl, (.flats (qA _))⟩, rfl, ⟨rfl, rfl, rfl, (.flats (qA _))⟩, trivial⟩
  exact ih1 (i + 1) (show ((i + 1) ≤ ps.length) from by omega) (show ps.length - (i + 1) < ps.length - i from by omega)
 have h1p : ¬ ((((i : Nat) : Int) < ((ps.length : Nat) : Int))) := pB h1
 have hin : i = ps.length := by omega
 refine q5 0<|qG<|aw_w [(1, .int .i64 tol), (5, .slice (some ⟨1, 0, none⟩) qs.length 0)] [(0, ⟨(ps.flatMap ptc), 29, true, 2⟩), (1, ⟨(qs.flatMap ptc), 29, true, 2⟩)] ?_ z16 z16 (hc := z14)
 refine qD 30 31<|aw_p 61 (
  .a 2 2 <| .p (qN true ((show (decide (((qs.length : Nat) : Int) < 3)) = true from decide_eq_true oO))) <| .nil _ _) ?_
 exact qR 122<|aw_e 245 2 2<|qF<|qB [.slice (some ⟨1, 0, none⟩) qs.length 0] kK
theorem uV (ps qs ys : List (Int × Int)) (hq : ps.map Sp.lmP = qs) (hz : ps.length ≤ 8796093021952) (tol : Int) (h3 : 3 ≤ qs.length) (J : List Nat) (hJ : Sp.u4 qs tol 0 (qs.length - 1) J) (hy : Sp.slF qs (Sp.setJ (Sp.kp0 qs.length) J) qs.length = ys) :
    AC Try.prog 16 1 ([.slice (some ⟨0, 0, none⟩) ps.length 0, .int .i64 tol]) [(0, ⟨(ps.flatMap ptc), 29, true, 2⟩)] (.slice (some ⟨1, 0, none⟩) ys.length 0) [(0, ⟨(ps.flatMap ptc), 29, true, 2⟩), (1, ⟨(ys.flatMap ptc), 29, true, 2⟩)] := by
 have hql : qs.length = ps.length := z40; have hf : Sp.Few 1048576 qs := (hq ▸ Sp.fD ps)
 refine qK Try.func16 (fun w0 W pin => ?_)
 refine aw_e 3 1 1<|aw_p 7 (
  .a 2 1 <| .p (vS (kl := .i64) (kc := .i64) (n' := 0) (c' := ((ps.length : Nat) : Int)) 1 29 2 16 0 ps.length (.agg #[.int .i64 0, .int .i64 0]) [] kK kK kK kK dD rfl oO oO oO) <| .e 1 2) ?_
 refine qD 14 15<|aw_e 29 3 2<|qM 0 59<|q6 119<|al_w _ _ (jS (fun i : Nat => (fun (i : Nat) => mkSt 1 [(1, .int .i64 tol), (5, .slice (some ⟨1, 0, none⟩) i 0), (15, .slice (some ⟨0, 0, none⟩) ps.length 0), (16, .int .i64 ((ps.length : Nat) : Int)), (17, .int .i64 ((i : Nat) : Int))] [(0, ⟨(ps.flatMap ptc), 29, true, 2⟩), (1, ⟨(((ps.take i).map Sp.lmP).flatMap ptc), 29, true, 2⟩)]) i) (fun i : Nat => (fun (i : Nat) => (i ≤ ps.length)) i) (fun i : Nat => (fun (i : Nat) => ps.length - i) i) (fun i hi1 ih1 => ?_) 0 (show (0 ≤ ps.length) from by omega)) (hc := z14)
 obtain ⟨i, hv1⟩ : ∃ z, z = i := ⟨i, rfl⟩; subst hv1
 have hi1' : (i ≤ ps.length) := hi1
 have hi : i ≤ ps.length := hi1'
 show AL _ _ _ (mkSt _ _ _) _
 refine qE<|aw_e 239 1 2<|qD 478 479<|qY 956 957 (decide (((i : Nat) : Int) < ((ps.length : Nat) : Int))) (fun h1 => ?_) (fun h1 => ?_)
 ·have h1p : ((((i : Nat) : Int) < ((ps.length : Nat) : Int))) := pB h1
  have hil : i < ps.length := by omega
  refine qH<|qD 958 959<|qM 1 1917<|aw_p 3835 (
   .p (iX 24 15 17 0 0 ps.length 2 ((i : Nat) : Int) oO oO) <|
   .p (lD 29 19 0 (0 + (((i : Nat) : Int)).toNat * 2) ⟨(ps.flatMap ptc), 29, true, 2⟩ (.agg #[.int .i64 ((ps.getD i (0, 0)).1), .int .i64 ((ps.getD i (0, 0)).2)]) (qL (j := i) kK kK oO z48)) <|
   .e 2 2) ?_
  refine qW (
   .a 2 3 <| .p (qC (j6 ((ps.getD i (0, 0)).1) ((ps.getD i (0, 0)).2))) <| .a 1 3 <|
   .p (j2 4 29 2 16 1 i 3 1 ⟨(((ps.take i).map Sp.lmP).flatMap ptc), 29, true, 2⟩ ⟨[.int .i64 (Sp.lim 1048576 ((ps.getD i (0, 0)).1)), .int .i64 (Sp.lim 1048576 ((ps.getD i (0, 0)).2))], 29, true, 2⟩ (((ps.take (i + 1)).map Sp.lmP).flatMap ptc) kK kK kK kK kK z23 oO oO (Sp.y5 hil rfl)) <|
   .e 1 5) ?_
  refine qW (
   .p (qJ (((i : Nat) : Int) + 1) (wrap_i64 oO oO) .i64) <| .e 1 5) ?_
  refine al_r [(1, 4)] [(1, .int .i64 tol), (5, .slice (some ⟨4, 0, none⟩) (i + 1) 0), (15, .slice (some ⟨0, 0, none⟩) ps.length 0), (16, .int .i64 ((ps.length : Nat) : Int)), (17, .int .i64 (((i + 1) : Nat) : Int))] [(0, ⟨(ps.flatMap ptc), 29, true, 2⟩), (4, ⟨(((ps.take (i + 1)).map Sp.lmP).flatMap ptc), 29, true, 2⟩)] [(1, .int .i64 tol), (5, .slice (some ⟨1, 0, none⟩) (i + 1) 0), (15, .slice (some ⟨0, 0, none⟩) ps.length 0), (16, .int .i64 ((ps.length : Nat) : Int)), (17, .int .i64 (((i + 1) : Nat) : Int))] [(0, ⟨(ps.flatMap ptc), 29, true, 2⟩), (1, ⟨(((ps.take (i + 1)).map Sp.lmP).flatMap ptc), 29, true, 2⟩)] ?_ ⟨rfl, (.flatB kK), rfl, (.slice _ _ _ _ _ rfl), rfl, (.slice _ _ _ _ _ rfl), rfl, (.flatB kK), rfl, (.flatB kK), trivial⟩ ⟨rfl, ⟨rfl, rfl, rfl, (.flats (qA _))⟩, rfl, ⟨rfl, rfl, rfl, (.flats (qA _))⟩, trivial⟩
  exact ih1 (i + 1) (show ((i + 1) ≤ ps.length) from by omega) (show ps.length - (i + 1) < ps.length - i from by omega)
 have h1p : ¬ ((((i : Nat) : Int) < ((ps.length : Nat) : Int))) := pB h1
 have hin : i = ps.length := by omega
 refine q5 0<|qG<|aw_w [(1, .int .i64 tol), (5, .slice (some ⟨1, 0, none⟩) qs.length 0)] [(0, ⟨(ps.flatMap ptc), 29, true, 2⟩), (1, ⟨(qs.flatMap ptc), 29, true, 2⟩)] ?_ z16 z16 (hc := z14)
 refine qD 30 31<|aw_p 61 (
  .a 2 2 <| .p (qN false ((show (decide (((qs.length : Nat) : Int) < 3)) = false from decide_eq_false oO))) <| .nil _ _) ?_
 refine qP 123<|qH<|aw_p 63 (
  .a 2 2 <|
  .p (vS (kl := .i64) (kc := .i64) (n' := ((qs.length : Nat) : Int)) (c' := ((qs.length : Nat) : Int)) 2 4 1 1 qs.length qs.length (.bool false) ((List.replicate qs.length false).map boolv) kK kK (hC _) (p6 _) rfl rfl (Nat.le_refl _) oO oO) <|
  .e 1 3) ?_
 refine aw_p 127 (
  .a 4 3 <| .p (qJ ((qs.length - 1 : Nat) : Int) ((show (IntKind.wrap .i64 (((qs.length : Nat) : Int) - 1)) = ((qs.length - 1 : Nat) : Int) from ((wrap_i64 oO oO).trans oO))) .i64) <|
  .p (q7 (t := 68) (x := .tmp 34) (y := .const (.int .i64 0)) (k := 2) (off := 0) (n := qs.length) (c := 0) (z := 1) (kd := .i64) (j := 0) kK kK kK kK kK oO oO) <|
  .p (j4 (t := 4) (x := .tmp 39) (y := .const (.bool true)) (k := 2) (off := 0) (b := ⟨((List.replicate qs.length false).map boolv), 4, true, 1⟩) (v := .bool true) (cells := (((List.replicate qs.length false).set 0 true).map boolv)) kK kK kK kK kK kK kK (Nat.ble_eq_true_of_le z13) (by rw [show 0 = 0 from oO]; exact cH rfl)) <|
  .p (iX 68 35 38 2 0 qs.length 1 ((qs.length - 1 : Nat) : Int) oO oO) <|
  .p (j4 (t := 4) (x := .tmp 40) (y := .const (.bool true)) (k := 2) (off := (0 + (((qs.length - 1 : Nat) : Int)).toNat * 1)) (b := ⟨(((List.replicate qs.length false).set 0 true).map boolv), 4, true, 1⟩) (v := .bool true) (cells := ((((List.replicate qs.length false).set 0 true).set (qs.length - 1) true).map boolv)) kK kK kK kK kK kK kK (Nat.ble_eq_true_of_le z12) (by rw [show (0 + (((qs.length - 1 : Nat) : Int)).toNat * 1) = (qs.length - 1) from oO]; exact cH rfl)) <| .nil _ _) ?_
 refine aw_p 255 (
  .a 4 3 <| .p (qJ ((qs.length - 1 : Nat) : Int) ((show (IntKind.wrap .i64 (((qs.length : Nat) : Int) - 1)) = ((qs.length - 1 : Nat) : Int) from ((wrap_i64 oO oO).trans oO))) .i64) <| .a 1 3 <|
  .p (cB #[.tmp 41, .tmp 42, .const (.int .i64 0), .tmp 45, .tmp 46] #[24, 68, 3, 3, 3] [.slice (some ⟨1, 0, none⟩) qs.length 0, .slice (some ⟨2, 0, none⟩) qs.length 0, .int .i64 0, .int .i64 ((qs.length - 1 : Nat) : Int), .int .i64 tol] 0 [(1, ⟨(qs.flatMap ptc), 29, true, 2⟩), (2, ⟨((((List.replicate qs.length false).set 0 true).set (qs.length - 1) true).map boolv), 4, true, 1⟩)] [(1, ⟨(qs.flatMap ptc), 29, true, 2⟩), (2, ⟨((Sp.setJ (Sp.kp0 qs.length) J).map boolv), 4, true, 1⟩)] (.tuple #[]) [1, 2] (mark_ok qs hf oO tol hJ oO (Sp.kp0 qs.length) (Sp.s8 _)) (.cons (.slice _ _ _ _ _ dD) (.cons (.slice _ _ _ _ _ dD) (.cons (.flatB kK) (.cons (.flatB kK) (.cons (.flatB kK) .nil))))) ⟨rfl, ⟨rfl, rfl, rfl, (.flats (qA _))⟩, rfl, ⟨rfl, rfl, rfl, (.flats (flats_map (fun _ => rfl) _))⟩, trivial⟩ ⟨rfl, ⟨rfl, rfl, rfl, (.flats (qA _))⟩, rfl, ⟨rfl, rfl, rfl, (.flats (flats_map (fun _ => rfl) _))⟩, trivial⟩ (.flatB kK)) <| .nil _ _) ?_
 refine aw_p 511 (
  .a 2 3 <| .p (vS (kl := .i64) (kc := .i64) (n' := 0) (c' := ((qs.length : Nat) : Int)) 3 29 2 16 0 qs.length (.agg #[.int .i64 0, .int .i64 0]) [] kK kK kK kK dD rfl oO oO oO) <| .e 1 4) ?_
 refine qD 1022 1023<|aw_e 2045 3 4<|qM 2 4091<|q6 8183<|al_w _ _ (jS (fun i : Nat => (fun (i : Nat) => mkSt 1 [(8, .slice (some ⟨2, 0, none⟩) qs.length 0), (9, .slice (some ⟨3, 0, none⟩) ((Sp.slF qs (Sp.setJ (Sp.kp0 qs.length) J) i).length) 0), (51, .slice (some ⟨1, 0, none⟩) qs.length 0), (52, .int .i64 ((qs.length : Nat) : Int)), (53, .int .i64 ((i : Nat) : Int))] [(0, ⟨(ps.flatMap ptc), 29, true, 2⟩), (1, ⟨(qs.flatMap ptc), 29, true, 2⟩), (2, ⟨((Sp.setJ (Sp.kp0 qs.length) J).map boolv), 4, true, 1⟩), (3, ⟨((Sp.slF qs (Sp.setJ (Sp.kp0 qs.length) J) i).flatMap ptc), 29, true, 2⟩)]) i) (fun i : Nat => (fun (i : Nat) => (i ≤ qs.length) ∧ ((Sp.slF qs (Sp.setJ (Sp.kp0 qs.length) J) i).length ≤ i)) i) (fun i : Nat => (fun (i : Nat) => qs.length - i) i) (fun i hi2 ih2 => ?_) 0 (show (0 ≤ qs.length) ∧ ((Sp.slF qs (Sp.setJ (Sp.kp0 qs.length) J) 0).length ≤ 0) from ⟨by omega, by exact Nat.le_refl _⟩)) (hc := z14)
 obtain ⟨i, hv2⟩ : ∃ z, z = i := ⟨i, rfl⟩; subst hv2
 have hi2' : (i ≤ qs.length) ∧ ((Sp.slF qs (Sp.setJ (Sp.kp0 qs.length) J) i).length ≤ i) := hi2
 obtain ⟨hi, hsl⟩ := hi2'
 show AL _ _ _ (mkSt _ _ _) _
 refine qE<|aw_e 16367 1 4<|qD 32734 32735<|qY 65468 65469 (decide (((i : Nat) : Int) < ((qs.length : Nat) : Int))) (fun h2 => ?_) (fun h2 => ?_)
 ·have h2p : ((((i : Nat) : Int) < ((qs.length : Nat) : Int))) := pB h2
  have hil : i < qs.length := by omega
  refine qH<|qD 65470 65471<|qM 3 130941<|aw_p 261883 (
   .a 1 4 <| .p (iX 24 51 53 1 0 qs.length 2 ((i : Nat) : Int) oO oO) <|
   .p (lD 29 56 1 (0 + (((i : Nat) : Int)).toNat * 2) ⟨(qs.flatMap ptc), 29, true, 2⟩ (.agg #[.int .i64 ((qs.getD i (0, 0)).1), .int .i64 ((qs.getD i (0, 0)).2)]) (qL (j := i) kK kK oO z48)) <|
   .e 3 4) ?_
  refine aw_p 523767 (
   .a 2 5 <| .p (iX 68 58 59 2 0 qs.length 1 ((i : Nat) : Int) oO oO) <|
   .p (lD 4 60 2 (0 + (((i : Nat) : Int)).toNat * 1) ⟨((Sp.setJ (Sp.kp0 qs.length) J).map boolv), 4, true, 1⟩ (.bool ((Sp.setJ (Sp.kp0 qs.length) J).getD i false)) z7) <| .nil _ _) ?_
  refine qY 1047534 1047535 ((Sp.setJ (Sp.kp0 qs.length) J).getD i false) (fun h3 => ?_) (fun h3 => ?_)
  ·refine qW (
    .a 3 5 <|
    .p (j2 6 29 2 16 3 ((Sp.slF qs (Sp.setJ (Sp.kp0 qs.length) J) i).length) 5 1 ⟨((Sp.slF qs (Sp.setJ (Sp.kp0 qs.length) J) i).flatMap ptc), 29, true, 2⟩ ⟨[.int .i64 ((qs.getD i (0, 0)).1), .int .i64 ((qs.getD i (0, 0)).2)], 29, true, 2⟩ ((Sp.slF qs (Sp.setJ (Sp.kp0 qs.length) J) (i + 1)).flatMap ptc) kK kK kK kK kK (by show ((Sp.slF qs (Sp.setJ (Sp.kp0 qs.length) J) i).flatMap ptc).length = _; rw [pairs_length]; omega) oO oO (by rw [Sp.slF_y (ps := qs) (kp := (Sp.setJ (Sp.kp0 qs.length) J)) (n := i) aA]; simp [ptc, pairs_length])) <|
    .e 1 7) ?_
   refine aw_w [(8, .slice (some ⟨2, 0, none⟩) qs.length 0), (9, .slice (some ⟨6, 0, none⟩) ((Sp.slF qs (Sp.setJ (Sp.kp0 qs.length) J) (i + 1)).length) 0), (10, .int .i64 ((i : Nat) : Int)), (11, .pointer (some ⟨4, 0, none⟩)), (51, .slice (some ⟨1, 0, none⟩) qs.length 0), (52, .int .i64 ((qs.length : Nat) : Int)), (53, .int .i64 ((i : Nat) : Int)), (54, .bool (decide (((i : Nat) : Int) < ((qs.length : Nat) : Int)))), (61, .bool ((Sp.setJ (Sp.kp0 qs.length) J).getD i false))] [(0, ⟨(ps.flatMap ptc), 29, true, 2⟩), (1, ⟨(qs.flatMap ptc), 29, true, 2⟩), (2, ⟨((Sp.setJ (Sp.kp0 qs.length) J).map boolv), 4, true, 1⟩), (4, ⟨[.int .i64 ((qs.getD i (0, 0)).1), .int .i64 ((qs.getD i (0, 0)).2)], 29, true, 2⟩), (6, ⟨((Sp.slF qs (Sp.setJ (Sp.kp0 qs.length) J) (i + 1)).flatMap ptc), 29, true, 2⟩)] ?_ z19 z19 (hc := z14)
   refine qW (
    .p (qJ (((i : Nat) : Int) + 1) (wrap_i64 oO oO) .i64) <| .e 1 7) ?_
   refine al_r [(3, 6)] [(8, .slice (some ⟨2, 0, none⟩) qs.length 0), (9, .slice (some ⟨6, 0, none⟩) ((Sp.slF qs (Sp.setJ (Sp.kp0 qs.length) J) (i + 1)).length) 0), (51, .slice (some ⟨1, 0, none⟩) qs.length 0), (52, .int .i64 ((qs.length : Nat) : Int)), (53, .int .i64 (((i + 1) : Nat) : Int))] [(0, ⟨(ps.flatMap ptc), 29, true, 2⟩), (1, ⟨(qs.flatMap ptc), 29, true, 2⟩), (2, ⟨((Sp.setJ (Sp.kp0 qs.length) J).map boolv), 4, true, 1⟩), (6, ⟨((Sp.slF qs (Sp.setJ (Sp.kp0 qs.length) J) (i + 1)).flatMap ptc), 29, true, 2⟩)] [(8, .slice (some ⟨2, 0, none⟩) qs.length 0), (9, .slice (some ⟨3, 0, none⟩) ((Sp.slF qs (Sp.setJ (Sp.kp0 qs.length) J) (i + 1)).length) 0), (51, .slice (some ⟨1, 0, none⟩) qs.length 0), (52, .int .i64 ((qs.length : Nat) : Int)), (53, .int .i64 (((i + 1) : Nat) : Int))] [(0, ⟨(ps.flatMap ptc), 29, true, 2⟩), (1, ⟨(qs.flatMap ptc), 29, true, 2⟩), (2, ⟨((Sp.setJ (Sp.kp0 qs.length) J).map boolv), 4, true, 1⟩), (3, ⟨((Sp.slF qs (Sp.setJ (Sp.kp0 qs.length) J) (i + 1)).flatMap ptc), 29, true, 2⟩)] ?_ ⟨rfl, (.slice _ _ _ _ _ rfl), rfl, (.slice _ _ _ _ _ rfl), rfl, (.slice _ _ _ _ _ rfl), rfl, (.flatB kK), rfl, (.flatB kK), trivial⟩ ⟨rfl, ⟨rfl, rfl, rfl, (.flats (qA _))⟩, rfl, ⟨rfl, rfl, rfl, (.flats (qA _))⟩, rfl, ⟨rfl, rfl, rfl, (.flats (flats_map (fun _ => rfl) _))⟩, rfl, ⟨rfl, rfl, rfl, (.flats (qA _))⟩, trivial⟩
   exact ih2 (i + 1) (show ((i + 1) ≤ qs.length) ∧ ((Sp.slF qs (Sp.setJ (Sp.kp0 qs.length) J) (i + 1)).length ≤ (i + 1)) from ⟨by omega, by exact Sp.mN _ _ _⟩) (show qs.length - (i + 1) < qs.length - i from by omega)
  refine qH<|aw_w [(8, .slice (some ⟨2, 0, none⟩) qs.length 0), (9, .slice (some ⟨3, 0, none⟩) ((Sp.slF qs (Sp.setJ (Sp.kp0 qs.length) J) (i + 1)).length) 0), (10, .int .i64 ((i : Nat) : Int)), (11, .pointer (some ⟨4, 0, none⟩)), (51, .slice (some ⟨1, 0, none⟩) qs.length 0), (52, .int .i64 ((qs.length : Nat) : Int)), (53, .int .i64 ((i : Nat) : Int)), (54, .bool (decide (((i : Nat) : Int) < ((qs.length : Nat) : Int)))), (61, .bool ((Sp.setJ (Sp.kp0 qs.length) J).getD i false))] [(0, ⟨(ps.flatMap ptc), 29, true, 2⟩), (1, ⟨(qs.flatMap ptc), 29, true, 2⟩), (2, ⟨((Sp.setJ (Sp.kp0 qs.length) J).map boolv), 4, true, 1⟩), (3, ⟨((Sp.slF qs (Sp.setJ (Sp.kp0 qs.length) J) (i + 1)).flatMap ptc), 29, true, 2⟩), (4, ⟨[.int .i64 ((qs.getD i (0, 0)).1), .int .i64 ((qs.getD i (0, 0)).2)], 29, true, 2⟩)] ?_ z21 z21 (hc := z14)
  refine qW (
   .p (qJ (((i : Nat) : Int) + 1) (wrap_i64 oO oO) .i64) <| .e 1 5) ?_
  exact al_w _ _ (ih2 (i + 1) (show ((i + 1) ≤ qs.length) ∧ ((Sp.slF qs (Sp.setJ (Sp.kp0 qs.length) J) (i + 1)).length ≤ (i + 1)) from ⟨by omega, by exact Sp.mN _ _ _⟩) (show qs.length - (i + 1) < qs.length - i from by omega)) (hc := z14)
 have h2p : ¬ ((((i : Nat) : Int) < ((qs.length : Nat) : Int))) := pB h2
 have hin : i = qs.length := by omega
 refine q5 2<|qG<|aw_w [(9, .slice (some ⟨3, 0, none⟩) ys.length 0)] [(0, ⟨(ps.flatMap ptc), 29, true, 2⟩), (3, ⟨(ys.flatMap ptc), 29, true, 2⟩)] ?_ (by (try rw [← hy, ← hin]); kernel_rfl) (by (try rw [← hy, ← hin]); kernel_rfl) (hc := z14)
 refine aw_e 2047 2 4<|aw_r [(1, 3)] [(4, .slice (some ⟨3, 0, none⟩) ys.length 0)] [(0, ⟨(ps.flatMap ptc), 29, true, 2⟩), (3, ⟨(ys.flatMap ptc), 29, true, 2⟩)] [(4, .slice (some ⟨1, 0, none⟩) ys.length 0)] [(0, ⟨(ps.flatMap ptc), 29, true, 2⟩), (1, ⟨(ys.flatMap ptc), 29, true, 2⟩)] ?_ ⟨rfl, (.slice _ _ _ _ _ rfl), trivial⟩ ⟨rfl, ⟨rfl, rfl, rfl, (.flats (qA _))⟩, rfl, ⟨rfl, rfl, rfl, (.flats (qA _))⟩, trivial⟩
 exact qF<|qB [.slice (some ⟨1, 0, none⟩) ys.length 0] kK
theorem tline_own (ps qs ys : List (Int × Int)) (hq : ps.map Sp.lmP = qs) (hz : ps.length ≤ 8796093021952) (tol : Int) (h : Sp.tW tol qs ys) : AC Try.prog 16 1 [.slice (some ⟨0, 0, none⟩) ps.length 0, .int .i64 tol] [(0, ⟨(ps.flatMap ptc), 29, true, 2⟩)] (.slice (some ⟨1, 0, none⟩) ys.length 0) [(0, ⟨(ps.flatMap ptc), 29, true, 2⟩), (1, ⟨(ys.flatMap ptc), 29, true, 2⟩)] := by
  rcases h with ⟨h, rfl⟩ | ⟨h, J, hJ, e⟩
  · exact dX ps _ hq hz tol h
  · exact uV ps qs ys hq hz tol h J hJ (Sp.tW.sl h hJ e)
theorem u6 (ps ys : List (Int × Int)) (hf : Sp.Few 41 ps) (hz : ps.length ≤ 8796093021952) (tol : Int) (h : Sp.tW tol ps ys) : AC Try.prog 16 1 [.slice (some ⟨0, 0, none⟩) ps.length 0, .int .i64 tol] [(0, ⟨(ps.flatMap ptc), 29, true, 2⟩)] (.slice (some ⟨1, 0, none⟩) ys.length 0) [(0, ⟨(ps.flatMap ptc), 29, true, 2⟩), (1, ⟨(ys.flatMap ptc), 29, true, 2⟩)] := tline_own ps ps ys (Sp.lim_few (by decide) hf) hz tol h
end Go.Proofs.Ytadifmimefmcnaa.Am
namespace Go.Proofs.Ytadifmimefmcnaa.Am.Sp
def crP (a b c : Int × Int) : Int := crs a.1 a.2 b.1 b.2 c.1 c.2
/-- b lies behind a in the order of points -/
def lxP (a b : Int × Int) : Prop := a.1 < b.1 ∨ (a.1 = b.1 ∧ a.2 < b.2)
theorem lxP.trans {a b c : Int × Int} (h : lxP a b) (k : lxP b c) : lxP a c := by unfold lxP at *; omega
theorem lxP.irr {a : Int × Int} (h : lxP a a) : False := by unfold lxP at h; omega
theorem lxP.tri (a b : Int × Int) : lxP a b ∨ a = b ∨ lxP b a := by
  unfold lxP
  rcases Int.lt_trichotomy a.1 b.1 with h | h | h
  · exact .inl (.inl h)
  · rcases Int.lt_trichotomy a.2 b.2 with k | k | k
    · exact .inl (.inr ⟨h, k⟩)
    · exact .inr (.inl (Prod.ext h k))
    · exact .inr (.inr (.inr ⟨h.symm, k⟩))
  · exact .inr (.inr (.inl h))
theorem bH {a b : Int} (ha : 0 ≤ a) (hb : 0 ≤ b) : 0 ≤ a * b := Int.mul_nonneg ha hb
/-- three vectors: u and v ahead, w not; v and w to the left of u: w to the left of v -/
theorem lex3 {u1 u2 v1 v2 w1 w2 : Int} (hu : 0 < u1 ∨ (u1 = 0 ∧ 0 < u2)) (hv : 0 < v1 ∨ (v1 = 0 ∧ 0 ≤ v2)) (hw : w1 < 0 ∨ (w1 = 0 ∧ w2 ≤ 0)) (hY : 0 ≤ u1 * w2 - u2 * w1) (hZ : 0 ≤ u1 * v2 - u2 * v1) : 0 ≤ v1 * w2 - v2 * w1 := by
  apply Classical.byContradiction
  intro hX
  have e1 : u1 * (v1 * w2 - v2 * w1) = v1 * (u1 * w2 - u2 * w1) + (-w1) * (u1 * v2 - u2 * v1) := by grind
  have e2 : u2 * (v1 * w2 - v2 * w1) = v2 * (u1 * w2 - u2 * w1) + (-w2) * (u1 * v2 - u2 * v1) := by grind
  generalize v1 * w2 - v2 * w1 = X at *
  generalize u1 * w2 - u2 * w1 = Y at *
  generalize u1 * v2 - u2 * v1 = Z at *
  have n1 : 0 ≤ v1 * Y := bH (by omega) hY
  have n2 : 0 ≤ (-w1) * Z := bH (by omega) hZ
  rcases hu with hu | ⟨hu, hu2⟩
  · have : u1 * X < 0 := Int.mul_neg_of_pos_of_neg hu (by omega)
    omega
  · subst hu
    rw [Int.zero_mul] at e1
    have : u2 * X < 0 := Int.mul_neg_of_pos_of_neg hu2 (by omega)
    have z1 : v1 * Y = 0 := by omega
    have z2 : (-w1) * Z = 0 := by omega
    have m1 : 0 ≤ v2 * Y := by
      rcases Int.mul_eq_zero.1 z1 with q | q
      · exact bH (by omega) hY
      · rw [q, Int.mul_zero]; exact Int.le_refl _
    have m2 : 0 ≤ (-w2) * Z := by
      rcases Int.mul_eq_zero.1 z2 with q | q
      · exact bH (by omega) hZ
      · rw [q, Int.mul_zero]; exact Int.le_refl _
    omega
/-- three vectors ahead: left turns follow one another -/
theorem lex3s {u1 u2 v1 v2 w1 w2 : Int} (hu : 0 < u1 ∨ (u1 = 0 ∧ 0 < u2)) (hv : 0 < v1 ∨ (v1 = 0 ∧ 0 < v2)) (hw : 0 < w1 ∨ (w1 = 0 ∧ 0 < w2)) (hR : 0 < u1 * v2 - u2 * v1) (hQ : 0 < v1 * w2 - v2 * w1) : 0 < u1 * w2 - u2 * w1 := by
  apply Classical.byContradiction
  intro hX
  have e1 : v1 * (u1 * w2 - u2 * w1) = u1 * (v1 * w2 - v2 * w1) + w1 * (u1 * v2 - u2 * v1) := by grind
  have e2 : v2 * (u1 * w2 - u2 * w1) = u2 * (v1 * w2 - v2 * w1) + w2 * (u1 * v2 - u2 * v1) := by grind
  rcases hv with hv | ⟨hv, hv2⟩
  · generalize hXX : u1 * w2 - u2 * w1 = X at *
    generalize v1 * w2 - v2 * w1 = Q at *
    generalize u1 * v2 - u2 * v1 = R at *
    have n1 : 0 ≤ u1 * Q := bH (by omega) (by omega)
    have n2 : 0 ≤ w1 * R := bH (by omega) (by omega)
    have n3 : v1 * X ≤ 0 := Int.mul_nonpos_of_nonneg_of_nonpos (by omega) (by omega)
    have z1 : u1 * Q = 0 := by omega
    have z2 : w1 * R = 0 := by omega
    have a1 : u1 = 0 := (Int.mul_eq_zero.1 z1).resolve_right (by omega)
    have a2 : w1 = 0 := (Int.mul_eq_zero.1 z2).resolve_right (by omega)
    subst a1; subst a2
    have : X = 0 := by rw [← hXX]; simp
    subst this
    rw [Int.mul_zero] at e2
    have p1 : 0 < u2 * Q := Int.mul_pos (by omega) hQ
    have p2 : 0 < w2 * R := Int.mul_pos (by omega) hR
    omega
  · subst hv
    simp only [Int.zero_mul, Int.mul_zero, Int.sub_zero, Int.zero_sub] at *
    -- 0 < u1 * v2, 0 < -(v2 * w1)
    have : 0 < v2 * (-w1) := by rw [Int.mul_neg]; exact hQ
    have := Int.pos_of_mul_pos_right this hv2
    omega
theorem xK (a b c : Int × Int) : crP a b c = (b.1 - a.1) * (c.2 - a.2) - (b.2 - a.2) * (c.1 - a.1) := by unfold crP crs; grind
theorem qC0 (a b : Int × Int) : crP a b b = 0 := by unfold crP crs; grind
theorem crP_aba (a b : Int × Int) : crP a b a = 0 := by unfold crP crs; grind
/-- a < b < c turn left, p ≤ b is left of ab: it is left of bc -/
theorem cX {a b c p : Int × Int} (hab : lxP a b) (hbc : lxP b c) (hp : lxP p b ∨ p = b) (ht : 0 ≤ crP a b c) (hl : 0 ≤ crP a b p) : 0 ≤ crP b c p := by
  have h := lex3 (u1 := b.1 - a.1) (u2 := b.2 - a.2) (v1 := c.1 - b.1) (v2 := c.2 - b.2) (w1 := p.1 - b.1) (w2 := p.2 - b.2) (by unfold lxP at hab; omega) (by unfold lxP at hbc; omega)
    (by rcases hp with q | q; unfold lxP at q; omega; subst q; omega) (by rw [xK] at hl; grind) (by rw [xK] at ht; grind)
  rw [xK]; exact h
/-- a < b < c < d turn left twice: d is left of ab -/
theorem qE7 {a b c d : Int × Int} (hab : lxP a b) (hbc : lxP b c) (hcd : lxP c d) (h1 : 0 < crP a b c) (h2 : 0 < crP b c d) : 0 < crP a b d := by
  have h := lex3s (u1 := b.1 - a.1) (u2 := b.2 - a.2) (v1 := c.1 - b.1) (v2 := c.2 - b.2) (w1 := d.1 - c.1) (w2 := d.2 - c.2) (by unfold lxP at hab; omega) (by unfold lxP at hbc; omega) (by unfold lxP at hcd; omega)
    (by rw [xK] at h1; grind) (by rw [xK] at h2; grind)
  rw [xK] at *; grind
/-- b is taken out between a and q: p from a on, that was left of ab, and of bq if behind b, is left of aq -/
theorem left_pop {a b q p : Int × Int} (hab : lxP a b) (hbq : lxP b q) (hp : lxP a p ∨ p = a) (ht : crP a b q ≤ 0) (hl : 0 ≤ crP a b p) (hr : (lxP b p ∨ p = b) → 0 ≤ crP b q p) : 0 ≤ crP a q p := by
  by_cases c : lxP b p ∨ p = b
  · have k := hr c
    have e : crP a q p = crP a b p - crP a b q + crP b q p := by unfold crP crs; grind
    omega
  · -- a ≤ p < b
    have hz := lex3 (u1 := b.1 - a.1) (u2 := b.2 - a.2) (v1 := p.1 - a.1) (v2 := p.2 - a.2) (w1 := -(q.1 - b.1)) (w2 := -(q.2 - b.2)) (by unfold lxP at hab; omega) (by rcases hp with h | h; unfold lxP at h; omega; subst h; omega) (by unfold lxP at hbq; omega)
      (by rw [xK] at ht; grind) (by rw [xK] at hl; grind)
    have e : crP a q p = crP a b p + ((p.1 - a.1) * (-(q.2 - b.2)) - (p.2 - a.2) * (-(q.1 - b.1))) := by unfold crP crs; grind
    omega
def popC (q : Int × Int) : List (Int × Int) → List (Int × Int)
  | b :: a :: r => if crP a b q ≤ 0 then popC q (a :: r) else b :: a :: r
  | [c] => [c]
  | [] => []
def chS : List (Int × Int) → List (Int × Int) → List (Int × Int)
  | acc, [] => acc
  | acc, q :: t => chS (q :: popC q acc) t
def Ds : List (Int × Int) → Prop
  | b :: a :: r => lxP a b ∧ Ds (a :: r)
  | _ => True
def Tr : List (Int × Int) → Prop
  | c :: b :: a :: r => 0 < crP a b c ∧ Tr (b :: a :: r)
  | _ => True
def Lf (S : List (Int × Int)) : List (Int × Int) → Prop
  | b :: a :: r => (∀ p ∈ S, 0 ≤ crP a b p) ∧ Lf S (a :: r)
  | _ => True
/-- the least of the chain is the least of all -/
def Bt (S : List (Int × Int)) (C : List (Int × Int)) : Prop := ∃ z, C.getLast? = some z ∧ ∀ p ∈ S, p = z ∨ lxP z p
def Tp (S : List (Int × Int)) (C : List (Int × Int)) : Prop := ∃ c r, C = c :: r ∧ ∀ p ∈ S, p = c ∨ lxP p c
structure Chn (S C : List (Int × Int)) : Prop where
  ds : Ds C
  tr : Tr C
  lf : Lf S C
  bt : Bt S C
  tp : Tp S C
  sub : ∀ p ∈ C, p ∈ S
theorem Ds.tail {b : Int × Int} {r : List (Int × Int)} (h : Ds (b :: r)) : Ds r := by
  cases r with
  | nil => trivial
  | cons a r => exact h.2
theorem Tr.tail {b : Int × Int} {r : List (Int × Int)} (h : Tr (b :: r)) : Tr r := by
  cases r with
  | nil => trivial
  | cons a r =>
    cases r with
    | nil => trivial
    | cons z r => exact h.2
theorem Lf.tail {S : List (Int × Int)} {b : Int × Int} {r : List (Int × Int)} (h : Lf S (b :: r)) : Lf S r := by
  cases r with
  | nil => trivial
  | cons a r => exact h.2
theorem Lf.mono {S S' : List (Int × Int)} (hs : ∀ p ∈ S', p ∈ S) : ∀ {C : List (Int × Int)}, Lf S C → Lf S' C
  | b :: a :: r, h => ⟨fun p hp => h.1 p (hs p hp), Lf.mono hs h.2⟩
  | [_], _ => trivial
  | [], _ => trivial
theorem Lf.append {S S' : List (Int × Int)} : ∀ {C : List (Int × Int)}, Lf S C → Lf S' C → Lf (S ++ S') C
  | b :: a :: r, h, k => ⟨fun p hp => (List.mem_append.1 hp).elim (h.1 p) (k.1 p), Lf.append h.2 k.2⟩
  | [_], _, _ => trivial
  | [], _, _ => trivial
theorem Bt.tail {S : List (Int × Int)} {b a : Int × Int} {r : List (Int × Int)} (h : Bt S (b :: a :: r)) : Bt S (a :: r) := by
  obtain ⟨z, h1, h2⟩ := h
  exact ⟨z, by rw [List.getLast?_cons_cons] at h1; exact h1, h2⟩
/-- what lies ahead of a chain that turns left toward it is left of all its edges -/
theorem qAJ {q : Int × Int} : ∀ {b a : Int × Int} {r : List (Int × Int)}, Ds (b :: a :: r) → Tr (b :: a :: r) → lxP b q → 0 < crP a b q → Lf [q] (b :: a :: r)
  | b, a, [], hd, ht, hb, h => ⟨fun p hp => by rw [List.mem_singleton.1 hp]; omega, trivial⟩
  | b, a, z :: r, hd, ht, hb, h => by
    refine ⟨fun p hp => by rw [List.mem_singleton.1 hp]; omega, ?_⟩
    exact qAJ hd.2 ht.2 (hd.1.trans hb) (qE7 hd.2.1 hd.1 hb ht.1 h)
theorem pop_chn {S : List (Int × Int)} {q : Int × Int} (hq : ∀ p ∈ S, lxP p q) : ∀ {C : List (Int × Int)}, Ds C → Tr C → Lf S C → Bt S C → (∀ p ∈ C, p ∈ S) → (∀ c r, C = c :: r → ∀ p ∈ S, (lxP c p ∨ p = c) → 0 ≤ crP c q p) →
    Ds (q :: popC q C) ∧ Tr (q :: popC q C) ∧ Lf (S ++ [q]) (q :: popC q C) ∧ Bt (S ++ [q]) (q :: popC q C) ∧ (∀ p ∈ popC q C, p ∈ S)
  | [], hd, ht, hl, hb, hs, hr => by obtain ⟨z, h1, _⟩ := hb; simp at h1
  | [c], hd, ht, hl, hb, hs, hr => by
    have hc := hs c (by simp)
    obtain ⟨z, h1, h2⟩ := hb
    have hz : c = z := by simpa using h1
    subst hz
    refine ⟨⟨hq c hc, trivial⟩, trivial, ⟨fun p hp => ?_, trivial⟩, ⟨c, by simp [popC], fun p hp => ?_⟩, fun p hp => hs p hp⟩
    · rcases List.mem_append.1 hp with k | k
      · refine hr c [] rfl p k ?_
        rcases h2 p k with e | e
        · exact .inr e
        · exact .inl e
      · rw [List.mem_singleton.1 k, qC0]; exact Int.le_refl _
    · rcases List.mem_append.1 hp with k | k
      · exact h2 p k
      · rw [List.mem_singleton.1 k]; exact .inr (hq c hc)
  | b :: a :: r, hd, ht, hl, hb, hs, hr => by
    have hbs := hs b (by simp)
    by_cases hp : crP a b q ≤ 0
    · rw [popC, if_pos hp]
      refine pop_chn hq hd.2 ht.tail hl.2 hb.tail (fun p h => hs p (List.mem_cons_of_mem _ h)) (fun c r' e p h1 h2 => ?_)
      rw [List.cons.injEq] at e
      obtain ⟨rfl, rfl⟩ := e
      exact left_pop hd.1 (hq b hbs) h2 hp (hl.1 p h1) (fun k => hr b _ rfl p h1 k)
    · rw [popC, if_neg hp]
      have h0 : 0 < crP a b q := by omega
      refine ⟨⟨hq b hbs, hd⟩, ⟨h0, ht⟩, ⟨fun p h => ?_, Lf.append hl (qAJ hd ht (hq b hbs) h0)⟩, ?_, hs⟩
      · rcases List.mem_append.1 h with k | k
        · rcases lxP.tri p b with c | c | c
          · exact cX hd.1 (hq b hbs) (.inl c) (by omega) (hl.1 p k)
          · exact hr b _ rfl p k (.inr c)
          · exact hr b _ rfl p k (.inl c)
        · rw [List.mem_singleton.1 k, qC0]; exact Int.le_refl _
      · obtain ⟨z, h1, h2⟩ := hb
        refine ⟨z, by rw [List.getLast?_cons_cons]; exact h1, fun p h => ?_⟩
        rcases List.mem_append.1 h with k | k
        · exact h2 p k
        · have hzs : z ∈ S := hs z (List.mem_of_getLast? h1)
          rw [List.mem_singleton.1 k]; exact .inr (hq z hzs)
theorem Chn.step {S C : List (Int × Int)} {q : Int × Int} (h : Chn S C) (hq : ∀ p ∈ S, lxP p q) : Chn (S ++ [q]) (q :: popC q C) := by
  have k := pop_chn hq h.ds h.tr h.lf h.bt h.sub (fun c r e p h1 h2 => by
    obtain ⟨c', r', e', h3⟩ := h.tp
    rw [e'] at e
    obtain ⟨rfl, rfl⟩ := List.cons.inj e
    rcases h3 p h1 with k | k
    · rw [k, crP_aba]; exact Int.le_refl _
    · rcases h2 with g | g
      · exact (lxP.irr (g.trans k)).elim
      · rw [g, crP_aba]; exact Int.le_refl _)
  refine ⟨k.1, k.2.1, k.2.2.1, k.2.2.2.1, ⟨q, _, rfl, fun p hp => ?_⟩, fun p hp => ?_⟩
  · rcases List.mem_append.1 hp with g | g
    · exact .inr (hq p g)
    · exact .inl (List.mem_singleton.1 g)
  · rcases List.mem_cons.1 hp with g | g
    · subst g; simp
    · exact List.mem_append.2 (.inl (k.2.2.2.2 p g))
theorem chn_one (a : Int × Int) : Chn [a] [a] := ⟨trivial, trivial, trivial, ⟨a, rfl, fun p hp => .inl (List.mem_singleton.1 hp)⟩, ⟨a, [], rfl, fun p hp => .inl (List.mem_singleton.1 hp)⟩, fun p hp => hp⟩
theorem chS_chn : ∀ (t S C : List (Int × Int)), Chn S C → (S ++ t).Pairwise lxP → Chn (S ++ t) (chS C t)
  | [], S, C, h, _ => by rw [List.append_nil]; exact h
  | q :: t, S, C, h, hp => by
    have hq : ∀ p ∈ S, lxP p q := fun p k => (List.pairwise_append.1 hp).2.2 p k q (by simp)
    have := chS_chn t (S ++ [q]) _ (h.step hq) (by rw [List.append_assoc]; exact hp)
    rw [List.append_assoc] at this; exact this
/-- the chain of points in their order -/
theorem chn_of {a : Int × Int} {t : List (Int × Int)} (h : (a :: t).Pairwise lxP) : Chn (a :: t) (chS [] (a :: t)) := chS_chn t [a] [a] (chn_one a) h
/-- a chain of all is one of its own points, and of whatever lies between -/
theorem Chn.less {S S' C : List (Int × Int)} (h : Chn S C) (h1 : ∀ p ∈ S', p ∈ S) (h2 : ∀ p ∈ C, p ∈ S') : Chn S' C := by
  refine ⟨h.ds, h.tr, h.lf.mono h1, ?_, ?_, h2⟩
  · obtain ⟨z, a, b⟩ := h.bt; exact ⟨z, a, fun p hp => b p (h1 p hp)⟩
  · obtain ⟨c, r, a, b⟩ := h.tp; exact ⟨c, r, a, fun p hp => b p (h1 p hp)⟩
end Go.Proofs.Ytadifmimefmcnaa.Am.Sp
