import Derived.Test.YtadifmimefmcnaaProg
import Derived.Test.YtadifmimefmcnaaM2
import Derived.Test.YtadifmimefmcnaaM4
import Derived.Test.YtadifmimefmcnaaM5
import Derived.Test.YtadifmimefmcnaaM10
import Derived.Test.YtadifmimefmcnaaM12
import Derived.Test.YtadifmimefmcnaaM13
import Derived.Test.YtadifmimefmcnaaM0
set_option maxHeartbeats 4000000
set_option linter.unusedVariables false
set_option linter.unusedSimpArgs false
namespace Go.Proofs.Ytadifmimefmcnaa.Am
open Go Go.Proofs
theorem linesThin_ok (xs : List Int) (tol : Int) (hz : xs.length ≤ 9223372036854775000) :
    AC Try.prog 11 1 ([.slice (some ⟨0, 0, none⟩) xs.length 0, .int .i64 tol]) [(0, ⟨(xs.map i64v), 3, false, 1⟩)] (.bool true) [] := by
 have t0 := Sp.wU tol (n := 12) dD
 refine qK Try.func11 (fun w0 W pin => ?_)
 refine aw_e 3 1 1<|qD 6 7<|aw_p 13 (
  .p (qC (qEF)) <| .e 1 1) ?_
 refine qP 27<|qH<|aw_p 15 (
  .a 1 1 <| .p (qC (dR tol 12 dD dD)) <| .e 1 1) ?_
 refine aw_e 31 1 1<|aw_share (sb Try.f11 63) (fun X : List Row => mkF 1 [(1, .int .i64 (tol % 12)), (5, .slice (some ⟨1, 0, none⟩) X.length 0)] [(1, ⟨(hds nA X), 24, false, 1⟩)] (fam2 29 X noB)) (fun X => Sp.lnsE X = 0 ∧ X.length ≤ 4) (fun X hX => ?_) (fun tl => ?_)
 ·obtain ⟨hc, hX4⟩ := hX
  obtain ⟨Y, hY⟩ : ∃ Y, Y = Sp.gV (tol % 12) X X.length := ⟨_, rfl⟩
  obtain ⟨hYc, hYl, hYf, hYs⟩ := Sp.keep_all hc hY
  have hXl : X.length ≤ 20 := oO
  have hXf := Sp.dG (Sp.p7 hc).2.1
  show AW _ _ _ (mkF _ _ _ _) _
  refine aw_p 127 (
   .a 2 2 <|
   .p (does_famK 1 2 nA (X := X) (Y := Y) (TH := 24) (TP := 29) (n := X.length) #[.tmp 63, .tmp 64] #[36, 3] [.slice (some ⟨1, 0, none⟩) X.length 0, .int .i64 (tol % 12)] (by have h := keep_ok X (tol % 12) hc; rw [← hY] at h; exact h) rfl hYl ⟨24, false, by kernel_rfl⟩ (fun j _ => ⟨29, false, Eq.trans (b := (fam2 29 X noB) (nA j)) kK (gG _ _ _ _)⟩) (show RenL (sigK X.length 1 2 nA) (· < 1 + X.length) [.slice (some ⟨0, 0, none⟩) X.length 0, .int .i64 (tol % 12)] [.slice (some ⟨1, 0, none⟩) X.length 0, .int .i64 (tol % 12)] from (.cons (.slice 0 _ _ _ _ z43) (.cons (.flatB kK) .nil))) dD kK (fun j => Eq.trans (b := (fam2 29 X noB) (nB j)) kK (xB _ _ _ _))) <|
   .e 5 3) ?_
  refine yL (qF8 (kh := 1) (kh2 := 2) (X := X) (Y := Y) (TH := 24) (TP := 29) (T := [(1, .int .i64 (tol % 12)), (5, .slice (some ⟨1, 0, none⟩) X.length 0), (10, .slice (some ⟨2, 0, none⟩) X.length 0), (11, .int .i64 0)]) [] rfl ⟨by decide, by decide, by decide⟩ kK kK (by intro k; kernel_rfl)) ?_
  refine qD 254 255<|aw_p 509 (
   .a 7 10 <| .p (qN false ((show (((X.length : Nat) : Int) != ((X.length : Nat) : Int)) = false from by simp))) <| .a 3 10 <|
   .p (wF 2 nB #[.tmp 78] #[36] [.slice (some ⟨2, 0, none⟩) X.length 0] ((by have h := dQ Y (fun i => by obtain ⟨_, hoo, _, _⟩ := Sp.p7 hYc; by_cases hi : i < Y.length; exact Nat.le_trans (Sp.y7 (hoo i hi)).2.1 dD; rw [List.getD_eq_getElem?_getD, List.getElem?_eq_none_iff.2 oO]; simp) (by rw [hYl]; omega); rw [hYc, hYl] at h; exact h)) ⟨24, false, by kernel_rfl⟩ (fun j _ => ⟨29, false, Eq.trans (b := (fam2 29 X (roB 29 Y)) (nB j)) kK (dN _ _ _ _)⟩) (show RenL (famS 2 nB) (· < 1 + X.length) [.slice (some ⟨0, 0, none⟩) X.length 0] [.slice (some ⟨2, 0, none⟩) X.length 0] from (.cons (.slice 0 _ _ _ _ z43) .nil)) (hn := hYl.symm)) <|
   .e 2 10) ?_
  refine qP 1019<|qH<|qD 510 511<|aw_e 1021 3 10<|qM 2 2043<|q6 4087<|al_wFh (jS (fun i : Nat => (fun (u : Nat) => mkF 1 [(1, .int .i64 (tol % 12)), (10, .slice (some ⟨2, 0, none⟩) X.length 0), (82, .slice (some ⟨1, 0, none⟩) X.length 0), (83, .int .i64 ((X.length : Nat) : Int)), (84, .int .i64 ((u : Nat) : Int))] [(1, ⟨(hds nA X), 24, false, 1⟩), (2, ⟨(hds nB Y), 24, false, 1⟩)] (fam2 29 X (roB 29 Y))) i) (fun i : Nat => (fun (u : Nat) => (u ≤ X.length)) i) (fun i : Nat => (fun (u : Nat) => X.length - u) i) (fun i hi1 ih1 => ?_) 0 (show (0 ≤ X.length) from by omega)) ⟨(jL j1 _ _ _), (jL j5 _ _ _), trivial⟩ (jH (yR _ _))
  obtain ⟨u, hv1⟩ : ∃ z, z = i := ⟨i, rfl⟩; subst hv1
  have hi1' : (u ≤ X.length) := hi1
  have hi : u ≤ X.length := hi1'
  show AL _ _ _ (mkF _ _ _ _) _
  refine qE<|aw_e 8175 1 10<|qD 16350 16351<|qY 32700 32701 (decide (((u : Nat) : Int) < ((X.length : Nat) : Int))) (fun h1 => ?_) (fun h1 => ?_)
  ·have h1p : ((((u : Nat) : Int) < ((X.length : Nat) : Int))) := pB h1
   have hux : u < X.length := oO; obtain ⟨x2, x200, yy2, y200, hT⟩ := hYs u hux; have hyx := hT.len; have fx := hXf u; have fy := hYf u
   refine qH<|qD 32702 32703<|qM 3 65405<|aw_p 130811 (
    .a 1 10 <| .p (iX 36 82 84 1 0 X.length 1 ((u : Nat) : Int) oO oO) <|
    .p (lD 24 87 1 (0 + (((u : Nat) : Int)).toNat * 1) ⟨(hds nA X), 24, false, 1⟩ (.slice (some ⟨(nA u), 0, none⟩) ((X.getD u []).length) 0) z24) <|
    .e 2 10) ?_
   refine tJ 8 (nA u) 13 ((X.getD u []).length) ⟨((X.getD u []).flatMap ptc), 29, false, 2⟩ [(1, .int .i64 (tol % 12)), (10, .slice (some ⟨2, 0, none⟩) X.length 0), (12, .int .i64 ((u : Nat) : Int)), (82, .slice (some ⟨1, 0, none⟩) X.length 0), (83, .int .i64 ((X.length : Nat) : Int)), (84, .int .i64 ((u : Nat) : Int)), (85, .bool (decide (((u : Nat) : Int) < ((X.length : Nat) : Int))))] [(1, ⟨(hds nA X), 24, false, 1⟩), (2, ⟨(hds nB Y), 24, false, 1⟩)] (fam2 29 X (roB 29 Y)) (Eq.trans (b := (fam2 29 X (roB 29 Y)) (nA u)) kK (gG _ _ _ _)) (qA _) ⟨(jL j1 _ _ _), (jL j5 _ _ _), trivial⟩ (jH (yR _ _)) ?_
   refine aw_e 261623 3 10<|qM 4 523247<|q6 1046495<|al_wFh (jS (fun i : Nat => (fun (e : Nat) => mkF 1 [(1, .int .i64 (tol % 12)), (10, .slice (some ⟨2, 0, none⟩) X.length 0), (12, .int .i64 ((u : Nat) : Int)), (13, .slice (some ⟨8, 0, none⟩) ((X.getD u []).length) 0), (82, .slice (some ⟨1, 0, none⟩) X.length 0), (83, .int .i64 ((X.length : Nat) : Int)), (84, .int .i64 ((u : Nat) : Int)), (89, .slice (some ⟨8, 0, none⟩) ((X.getD u []).length) 0), (90, .int .i64 (((X.getD u []).length : Nat) : Int)), (91, .int .i64 ((e : Nat) : Int))] [(1, ⟨(hds nA X), 24, false, 1⟩), (2, ⟨(hds nB Y), 24, false, 1⟩), (8, ⟨((X.getD u []).flatMap ptc), 29, false, 2⟩)] (fam2 29 X (roB 29 Y))) i) (fun i : Nat => (fun (e : Nat) => (e ≤ (X.getD u []).length)) i) (fun i : Nat => (fun (e : Nat) => (X.getD u []).length - e) i) (fun i hi2 ih2 => ?_) 0 (show (0 ≤ (X.getD u []).length) from by omega)) ⟨(jL j1 _ _ _), (jL j5 _ _ _), (vT _ _ _), trivial⟩ (jH (yR _ _))
   obtain ⟨e, hv2⟩ : ∃ z, z = i := ⟨i, rfl⟩; subst hv2
   have hi2' : (e ≤ (X.getD u []).length) := hi2
   have he : e ≤ (X.getD u []).length := hi2'
   show AL _ _ _ (mkF _ _ _ _) _
   refine qE<|aw_e 2092991 1 10<|qD 4185982 4185983<|qY 8371964 8371965 (decide (((e : Nat) : Int) < (((X.getD u []).length : Nat) : Int))) (fun h2 => ?_) (fun h2 => ?_)
   ·have h2p : ((((e : Nat) : Int) < (((X.getD u []).length : Nat) : Int))) := pB h2
    have hel : e < (X.getD u []).length := oO; obtain ⟨k, hk, hw⟩ := hT.nl t0.1 hel; have fe := fx e
    refine qH<|qD 8371966 8371967<|qM 5 16743933<|aw_p 33487867 (
     .p (iX 24 89 91 8 0 ((X.getD u []).length) 2 ((e : Nat) : Int) oO oO) <|
     .p (lD 29 93 8 (0 + (((e : Nat) : Int)).toNat * 2) ⟨((X.getD u []).flatMap ptc), 29, false, 2⟩ (.agg #[.int .i64 (((X.getD u []).getD e (0, 0)).1), .int .i64 (((X.getD u []).getD e (0, 0)).2)]) (qL (j := e) kK kK oO oO)) <|
     .e 2 10) ?_
    refine aw_e 66975735 1 11<|qD 133951470 133951471<|aw_e 267902941 1 11<|qM 6 535805883<|q6 1071611767<|al_wFh (jS (fun i : Nat × Bool => (fun (i : Nat) (b : Bool) => mkF 1 [(1, .int .i64 (tol % 12)), (10, .slice (some ⟨2, 0, none⟩) X.length 0), (12, .int .i64 ((u : Nat) : Int)), (13, .slice (some ⟨8, 0, none⟩) ((X.getD u []).length) 0), (15, .pointer (some ⟨10, 0, none⟩)), (16, .bool b), (17, .int .i64 ((i : Nat) : Int)), (82, .slice (some ⟨1, 0, none⟩) X.length 0), (83, .int .i64 ((X.length : Nat) : Int)), (84, .int .i64 ((u : Nat) : Int)), (89, .slice (some ⟨8, 0, none⟩) ((X.getD u []).length) 0), (90, .int .i64 (((X.getD u []).length : Nat) : Int)), (91, .int .i64 ((e : Nat) : Int))] [(1, ⟨(hds nA X), 24, false, 1⟩), (2, ⟨(hds nB Y), 24, false, 1⟩), (8, ⟨((X.getD u []).flatMap ptc), 29, false, 2⟩), (10, ⟨[.int .i64 (((X.getD u []).getD e (0, 0)).1), .int .i64 (((X.getD u []).getD e (0, 0)).2)], 29, true, 2⟩)] (fam2 29 X (roB 29 Y))) i.1 i.2) (fun i : Nat × Bool => (fun (i : Nat) (b : Bool) => (1 ≤ i ∧ i ≤ (Y.getD u []).length) ∧ (b = true ∨ i ≤ k + 1)) i.1 i.2) (fun i : Nat × Bool => (fun (i : Nat) (b : Bool) => (Y.getD u []).length - i) i.1 i.2) (fun i hi3 ih3 => ?_) (1, false) (show (1 ≤ 1 ∧ 1 ≤ (Y.getD u []).length) ∧ (false = true ∨ 1 ≤ k + 1) from ⟨by omega, by (exact .inr oO)⟩)) ⟨(jL j1 _ _ _), (jL j5 _ _ _), (vT _ _ _), kK, trivial⟩ (jH (yR _ _))
    obtain ⟨i, b⟩ := i
    have hi3' : (1 ≤ i ∧ i ≤ (Y.getD u []).length) ∧ (b = true ∨ i ≤ k + 1) := hi3
    obtain ⟨hi, hb⟩ := hi3'
    show AL _ _ _ (mkF _ _ _ _) _
    refine qE<|qD 2143223534 2143223535<|aw_p 4286447069 (
     .a 3 11 <| .p (iX 36 96 97 2 0 X.length 1 ((u : Nat) : Int) oO oO) <|
     .p (lD 24 98 2 (0 + (((u : Nat) : Int)).toNat * 1) ⟨(hds nB Y), 24, false, 1⟩ (.slice (some ⟨(nB u), 0, none⟩) ((Y.getD u []).length) 0) z24) <|
     .e 2 11) ?_
    refine qY 8572894138 8572894139 (decide (((i : Nat) : Int) < (((Y.getD u []).length : Nat) : Int))) (fun h3 => ?_) (fun h3 => ?_)
    ·have h3p : ((((i : Nat) : Int) < (((Y.getD u []).length : Nat) : Int))) := pB h3
     have fi := fy i; have fj := fy (i - 1)
     refine qH<|qD 4286447070 4286447071<|qM 7 8572894141 ?_
     rcases Bool.eq_false_or_eq_true (b) with h4 | h4
     ·refine fX (
       .p (qN true (h4)) <| .e 21 11) ?_
      refine qW (
       .a 1 11 <| .p (qJ (((i : Nat) : Int) + 1) (wrap_i64 oO oO) .i64) <| .e 1 11) ?_
      exact al_wFh (ih3 ((i + 1), true) (show (1 ≤ (i + 1) ∧ (i + 1) ≤ (Y.getD u []).length) ∧ (true = true ∨ (i + 1) ≤ k + 1) from ⟨by omega, by (first | exact .inl rfl | exact .inl aA | exact near_go hb aA hw)⟩) (show (Y.getD u []).length - (i + 1) < (Y.getD u []).length - i from by omega)) ⟨(jL j1 _ _ _), (jL j5 _ _ _), (vT _ _ _), kK, trivial⟩ (jH (yR _ _))
     refine fX (
      .p (qN false (h4)) <| .a 4 11 <| .p (iX 36 107 108 2 0 X.length 1 ((u : Nat) : Int) oO oO) <|
      .p (lD 24 109 2 (0 + (((u : Nat) : Int)).toNat * 1) ⟨(hds nB Y), 24, false, 1⟩ (.slice (some ⟨(nB u), 0, none⟩) ((Y.getD u []).length) 0) z24) <|
      .a 1 11 <| .p (qJ ((i - 1 : Nat) : Int) ((show (IntKind.wrap .i64 (((i : Nat) : Int) - 1)) = ((i - 1 : Nat) : Int) from ((wrap_i64 oO oO).trans oO))) .i64) <|
      .p (iX 24 110 112 (nB u) 0 ((Y.getD u []).length) 2 ((i - 1 : Nat) : Int) oO oO) <|
      .p (bM (t := 29) (x := .tmp 113) (k := (nB u)) (off := (0 + (((i - 1 : Nat) : Int)).toNat * 2)) (b := ⟨((Y.getD u []).flatMap ptc), 29, false, 2⟩) (v := .agg #[.int .i64 (((Y.getD u []).getD (i - 1) (0, 0)).1), .int .i64 (((Y.getD u []).getD (i - 1) (0, 0)).2)]) kK kK (Eq.trans (b := (fam2 29 X (roB 29 Y)) (nB u)) kK (dN _ _ _ _)) (qL (j := (i - 1)) kK kK oO oO)) <|
      .a 2 11 <| .p (iX 36 115 116 2 0 X.length 1 ((u : Nat) : Int) oO oO) <|
      .p (lD 24 117 2 (0 + (((u : Nat) : Int)).toNat * 1) ⟨(hds nB Y), 24, false, 1⟩ (.slice (some ⟨(nB u), 0, none⟩) ((Y.getD u []).length) 0) z24) <|
      .a 1 11 <| .p (iX 24 118 119 (nB u) 0 ((Y.getD u []).length) 2 ((i : Nat) : Int) oO oO) <|
      .p (bM (t := 29) (x := .tmp 120) (k := (nB u)) (off := (0 + (((i : Nat) : Int)).toNat * 2)) (b := ⟨((Y.getD u []).flatMap ptc), 29, false, 2⟩) (v := .agg #[.int .i64 (((Y.getD u []).getD i (0, 0)).1), .int .i64 (((Y.getD u []).getD i (0, 0)).2)]) kK kK (Eq.trans (b := (fam2 29 X (roB 29 Y)) (nB u)) kK (dN _ _ _ _)) (qL (j := i) kK kK oO oO)) <|
      .a 1 11 <|
      .p (qC (gR (((X.getD u []).getD e (0, 0)).1) (((X.getD u []).getD e (0, 0)).2) (((Y.getD u []).getD (i - 1) (0, 0)).1) (((Y.getD u []).getD (i - 1) (0, 0)).2) (((Y.getD u []).getD i (0, 0)).1) (((Y.getD u []).getD i (0, 0)).2) (tol % 12) oO oO oO oO oO oO oO oO oO oO oO oO)) <|
      .e 2 11) ?_
     refine qW (
      .a 1 11 <| .p (qJ (((i : Nat) : Int) + 1) (wrap_i64 oO oO) .i64) <| .e 1 11) ?_
     exact al_wFh (ih3 ((i + 1), (Sp.wthn (((X.getD u []).getD e (0, 0)).1) (((X.getD u []).getD e (0, 0)).2) (((Y.getD u []).getD (i - 1) (0, 0)).1) (((Y.getD u []).getD (i - 1) (0, 0)).2) (((Y.getD u []).getD i (0, 0)).1) (((Y.getD u []).getD i (0, 0)).2) (tol % 12))) (show (1 ≤ (i + 1) ∧ (i + 1) ≤ (Y.getD u []).length) ∧ ((Sp.wthn (((X.getD u []).getD e (0, 0)).1) (((X.getD u []).getD e (0, 0)).2) (((Y.getD u []).getD (i - 1) (0, 0)).1) (((Y.getD u []).getD (i - 1) (0, 0)).2) (((Y.getD u []).getD i (0, 0)).1) (((Y.getD u []).getD i (0, 0)).2) (tol % 12)) = true ∨ (i + 1) ≤ k + 1) from ⟨by omega, by (first | exact .inl rfl | exact .inl aA | exact near_go hb aA hw)⟩) (show (Y.getD u []).length - (i + 1) < (Y.getD u []).length - i from by omega)) ⟨(jL j1 _ _ _), (jL j5 _ _ _), (vT _ _ _), kK, trivial⟩ (jH (yR _ _))
    have h3p : ¬ ((((i : Nat) : Int) < (((Y.getD u []).length : Nat) : Int))) := pB h3
    have hbt : b = true := hb.resolve_right oO
    refine q5 6<|qG<|aw_p 267902943 (
     .a 1 11 <| .p (qN false ((show (!b) = false from (by rw [hbt]; rfl)))) <| .nil _ _) ?_
    refine qP 535805887<|qH<|qW (
     .p (qJ (((e : Nat) : Int) + 1) (wrap_i64 oO oO) .i64) <| .e 1 11) ?_
    exact al_wFh (ih2 (e + 1) (show ((e + 1) ≤ (X.getD u []).length) from by omega) (show (X.getD u []).length - (e + 1) < (X.getD u []).length - e from by omega)) ⟨(jL j1 _ _ _), (jL j5 _ _ _), (vT _ _ _), trivial⟩ (jH (yR _ _))
   have h2p : ¬ ((((e : Nat) : Int) < (((X.getD u []).length : Nat) : Int))) := pB h2
   refine q5 4<|qG<|qW (
    .p (qJ (((u : Nat) : Int) + 1) (wrap_i64 oO oO) .i64) <| .e 1 10) ?_
   exact al_wFh (ih1 (u + 1) (show ((u + 1) ≤ X.length) from by omega) (show X.length - (u + 1) < X.length - u from by omega)) ⟨(jL j1 _ _ _), (jL j5 _ _ _), trivial⟩ (jH (yR _ _))
  have h1p : ¬ ((((u : Nat) : Int) < ((X.length : Nat) : Int))) := pB h1
  exact q5 2<|qG<|aw_e 1023 1 10<|qF<|qB [.bool true] kK
 refine qD 62 63<|aw_e 125 1 1<|qM 0 251<|q6 503<|al_w _ _ (jS (fun i : Nat => (fun (p : Nat) => mkSt 1 [(0, .slice (some ⟨0, 0, none⟩) xs.length 0), (1, .int .i64 (tol % 12)), (5, .slice none 0 0), (6, .int .i64 ((p : Nat) : Int))] [(0, ⟨(xs.map i64v), 3, false, 1⟩)]) i) (fun i : Nat => (fun (p : Nat) => (p ≤ xs.length + 8)) i) (fun i : Nat => (fun (p : Nat) => xs.length + 8 - p) i) (fun i hi4 ih4 => ?_) 0 (show (0 ≤ xs.length + 8) from by omega)) (hc := z15)
 obtain ⟨p, hv4⟩ : ∃ z, z = i := ⟨i, rfl⟩; subst hv4
 have hi4' : (p ≤ xs.length + 8) := hi4
 have hp : p ≤ xs.length + 8 := hi4'
 show AL _ _ _ (mkSt _ _ _) _
 obtain ⟨n, hn⟩ : ∃ n, n = min (xs.length - p) 8 := ⟨_, rfl⟩
 obtain ⟨r, hrp⟩ : ∃ r, r = Sp.lnR xs p 8 := ⟨_, rfl⟩
 have hr8 : 2 ≤ r.length ∧ r.length ≤ 8 := (by rw [hrp, Sp.lnR_len]; omega)
 have hrr : r = Sp.lnL ((xs.drop p).take n) (n % 7 + 2) := (by rw [hrp, hn]; rfl)
 have hfr : Sp.Few 41 r := hrr ▸ Sp.lnL_few _ _
 obtain ⟨ys, hL⟩ := Sp.qAG (tol % 12) r
 obtain ⟨⟨y2, yl⟩, f0, f1, f2, f3⟩ := Sp.tW.facts hL hr8.1 t0.1
 have hfy : Sp.Few 41 ys := Sp.xH dD hfr f2
 refine qE<|qD 1006 1007 ?_
 rcases Bool.eq_false_or_eq_true (decide (((p : Nat) : Int) < ((xs.length : Nat) : Int))) with h5 | h5
 ·have h5p : ((((p : Nat) : Int) < ((xs.length : Nat) : Int))) := pB h5
  refine aw_p 2013 (
   .a 3 1 <| .p (qN true (h5)) <| .e 5 1) ?_
  refine qR 4026<|qH<|qD 2014 2015<|qM 1 4029<|aw_p 8059 (
   .a 3 1 <| .p (qJ (((p : Nat) : Int) + 8) (wrap_i64 oO oO) .i64) <| .a 2 1 <| .p (qJ ((p + n : Nat) : Int) ((show (Sp.mn (((p : Nat) : Int) + 8) ((xs.length : Nat) : Int)) = ((p + n : Nat) : Int) from (by unfold Sp.mn; split <;> omega))) .i64) <|
   .p (jT (v' := .slice (some ⟨0, p, none⟩) n 0) (jN (t := 22) (x := .tmp 33) (lo := some (.tmp 34)) (hi := some (.tmp 39)) (k := 0) (off := 0) (n := xs.length) (c := 0) (z := 1) (l := ((p : Nat) : Int)) (h := ((p + n : Nat) : Int)) (m := n) (b := ⟨(xs.map i64v), 3, false, 1⟩) kK kK kK kK kK kK kK kK oO oO oO oO) (by rw [show (0 + (((p : Nat) : Int) : Int).toNat * 1) = p from by omega])) <|
   .p (cB #[.tmp 40] #[22] [.slice (some ⟨0, p, none⟩) n 0] 1 [(0, ⟨(xs.map i64v), 3, false, 1⟩)] [(1, ⟨(r.flatMap ptc), 29, true, 2⟩)] (.slice (some ⟨1, 0, none⟩) r.length 0) [0, 1] (p5 xs p n r oO oO hrr.symm) (.cons (.slice _ _ _ _ _ dD) .nil) ⟨rfl, ⟨rfl, rfl, rfl, (.flats (flats_map (fun _ => rfl) _))⟩, trivial⟩ ⟨rfl, ⟨rfl, rfl, rfl, (.flats (qA _))⟩, trivial⟩ (.slice _ _ _ _ _ dD)) <|
   .e 2 2) ?_
  refine aw_p 16119 (
   .a 2 3 <|
   .p (cB #[.tmp 42, .tmp 43] #[24, 3] [.slice (some ⟨1, 0, none⟩) r.length 0, .int .i64 (tol % 12)] 1 [(1, ⟨(r.flatMap ptc), 29, true, 2⟩)] [(1, ⟨(r.flatMap ptc), 29, true, 2⟩), (3, ⟨(ys.flatMap ptc), 29, true, 2⟩)] (.slice (some ⟨3, 0, none⟩) ys.length 0) [1, 3] (u6 r ys hfr oO (tol % 12) hL) (.cons (.slice _ _ _ _ _ dD) (.cons (.flatB kK) .nil)) ⟨rfl, ⟨rfl, rfl, rfl, (.flats (qA _))⟩, trivial⟩ ⟨rfl, ⟨rfl, rfl, rfl, (.flats (qA _))⟩, rfl, ⟨rfl, rfl, rfl, (.flats (qA _))⟩, trivial⟩ (.slice _ _ _ _ _ dD)) <|
   .e 1 4) ?_
  refine qD 32238 32239<|aw_p 64477 (
   .a 2 4 <| .p (qN false ((show (decide (((ys.length : Nat) : Int) < 2)) = false from decide_eq_false oO))) <| .a 3 4 <|
   .p (cB #[.tmp 49, .tmp 50] #[24, 34] [.slice (some ⟨3, 0, none⟩) ys.length 0, .func (.func 49) #[] #[.pointer (some ⟨2, 0, none⟩)]] 0 [(3, ⟨(ys.flatMap ptc), 29, true, 2⟩), (2, ⟨[.slice (some ⟨1, 0, none⟩) r.length 0], 24, true, 1⟩), (1, ⟨(r.flatMap ptc), 29, true, 2⟩)] [(3, ⟨(ys.flatMap ptc), 29, true, 2⟩), (2, ⟨[.slice (some ⟨1, 0, none⟩) r.length 0], 24, true, 1⟩), (1, ⟨(r.flatMap ptc), 29, true, 2⟩)] (.bool false) [3, 2, 1] (ctl_ok r _ ys hr8 hfr rfl hfy oO (fun i hi => Sp.qB5 (f2 _ (Sp.dJ hi)))) (.cons (.slice _ _ _ _ _ dD) (.cons (.funcL (.flats kK) (.cons (.ptr _ _ dD) .nil)) .nil)) ⟨rfl, ⟨rfl, rfl, rfl, (.flats (qA _))⟩, rfl, ⟨rfl, rfl, rfl, (.cons (.slice _ _ _ _ _ dD) .nil)⟩, rfl, ⟨rfl, rfl, rfl, (.flats (qA _))⟩, trivial⟩ ⟨rfl, ⟨rfl, rfl, rfl, (.flats (qA _))⟩, rfl, ⟨rfl, rfl, rfl, (.cons (.slice _ _ _ _ _ dD) .nil)⟩, rfl, ⟨rfl, rfl, rfl, (.flats (qA _))⟩, trivial⟩ (.flatB kK)) <|
   .e 1 4) ?_
  refine qP 128955<|qH<|aw_d 64479 (
   .a 1 4 <| .p (qC (eK)) <| .a 2 4 <| .p (jQ 5) <| .e 1 6) ?_
  refine aw_p 128959 (
   .a 1 6 <|
   .p (wF 5 (fun _ => 1) #[.tmp 58] #[36] [.slice (some ⟨5, 0, none⟩) 1 0] (dQ [r] (fun i => by match i with | 0 => exact Nat.le_trans hr8.2 dD | i + 1 => simp) (by simp)) ⟨24, true, by kernel_rfl⟩ (fun j hj => by obtain rfl : j = 0 := (by simp at hj; omega); exact ⟨29, true, by kernel_rfl⟩) (show RenL (famS 5 (fun _ => 1)) (· < 1 + 1) [.slice (some ⟨0, 0, none⟩) 1 0] [.slice (some ⟨5, 0, none⟩) 1 0] from (.cons (.slice 0 _ _ _ _ z43) .nil))) <|
   .e 1 6) ?_
  refine qY 257918 257919 ((Sp.lnsE [r]) == 0) (fun h6 => ?_) (fun h6 => ?_)
  ·have h6p : (((Sp.lnsE [r]) = 0)) := pB h6
   refine aw_e1 2 6<|qW (
    .a 1 6 <| .p (qJ (((p : Nat) : Int) + 8) (wrap_i64 oO oO) .i64) <| .e 1 6) ?_
   have hS : Sp.lnsE [r] = 0 := (by first | assumption | (simpa using h6))
   refine wZ (qBB (b0 := ⟨(xs.map i64v), 3, false, 1⟩) (K := 1) (K0 := 5) (q := 1) (t := 5) (n := 1) (Y := []) (r := r) (TP := 29) (TH := 24) (T := [(0, .slice (some ⟨0, 0, none⟩) xs.length 0), (1, .int .i64 (tol % 12)), (6, .int .i64 ((p + 8 : Nat) : Int))]) rfl ⟨by decide, by decide⟩ ⟨by decide, by decide⟩ ⟨by decide, by decide, by decide⟩ kK kK kK kK rfl (flats_map (fun _ => rfl) _) kK kK z47) ?_
   refine al_wFh (jS (fun i : Nat × List Row => (fun (p : Nat) (Y : List Row) => mkF 1 [(0, .slice (some ⟨0, 0, none⟩) xs.length 0), (1, .int .i64 (tol % 12)), (5, .slice (some ⟨1, 0, none⟩) Y.length 0), (6, .int .i64 ((p : Nat) : Int))] [(0, ⟨(xs.map i64v), 3, false, 1⟩), (1, ⟨(hds (· + 200) Y), 24, true, 1⟩)] (famO 29 Y)) i.1 i.2) (fun i : Nat × List Row => (fun (p : Nat) (Y : List Row) => (p ≤ xs.length + 8) ∧ (Sp.lnsE Y = 0) ∧ (1 ≤ Y.length ∧ Y.length ≤ 4)) i.1 i.2) (fun i : Nat × List Row => (fun (p : Nat) (Y : List Row) => xs.length + 8 - p) i.1 i.2) (fun i hi5 ih5 => ?_) ((p + 8), ([r])) (show ((p + 8) ≤ xs.length + 8) ∧ (Sp.lnsE ([r]) = 0) ∧ (1 ≤ ([r]).length ∧ ([r]).length ≤ 4) from ⟨by omega, by (exact hS), by (simp)⟩)) ⟨(i64_cl _ _ _), (jJ _ _ _), trivial⟩ (uC _ _)
   obtain ⟨p, Y⟩ := i
   have hi5' : (p ≤ xs.length + 8) ∧ (Sp.lnsE Y = 0) ∧ (1 ≤ Y.length ∧ Y.length ≤ 4) := hi5
   obtain ⟨hp, hW, hy⟩ := hi5'
   show AL _ _ _ (mkF _ _ _ _) _
   obtain ⟨n, hn⟩ : ∃ n, n = min (xs.length - p) 8 := ⟨_, rfl⟩
   obtain ⟨r, hrp⟩ : ∃ r, r = Sp.lnR xs p 8 := ⟨_, rfl⟩
   have hr8 : 2 ≤ r.length ∧ r.length ≤ 8 := (by rw [hrp, Sp.lnR_len]; omega)
   have hrr : r = Sp.lnL ((xs.drop p).take n) (n % 7 + 2) := (by rw [hrp, hn]; rfl)
   have hfr : Sp.Few 41 r := hrr ▸ Sp.lnL_few _ _
   obtain ⟨ys, hL⟩ := Sp.qAG (tol % 12) r
   obtain ⟨⟨y2, yl⟩, f0, f1, f2, f3⟩ := Sp.tW.facts hL hr8.1 t0.1
   have hfy : Sp.Few 41 ys := Sp.xH dD hfr f2
   have hw8 : ∀ i, (Y.getD i []).length ≤ 200 := (fun i => by obtain ⟨_, ho, _, _⟩ := Sp.p7 hW; by_cases hi : i < Y.length; exact (Sp.y7 (ho i hi)).2.1; rw [List.getD_eq_getElem?_getD, List.getElem?_eq_none_iff.2 oO]; simp)
   refine qE<|qD 1006 1007 ?_
   rcases Bool.eq_false_or_eq_true (decide (((p : Nat) : Int) < ((xs.length : Nat) : Int))) with h7 | h7
   ·have h7p : ((((p : Nat) : Int) < ((xs.length : Nat) : Int))) := pB h7
    refine aw_p 2013 (
     .a 3 6 <| .p (qN true (h7)) <| .e 5 6) ?_
    refine qY 4026 4027 (decide (((Y.length : Nat) : Int) < 4)) (fun h8 => ?_) (fun h8 => ?_)
    ·have h8p : ((((Y.length : Nat) : Int) < 4)) := pB h8
     refine qH<|qD 2014 2015<|qM 1 4029<|aw_p 8059 (
      .a 3 6 <| .p (qJ (((p : Nat) : Int) + 8) (wrap_i64 oO oO) .i64) <| .a 2 6 <| .p (qJ ((p + n : Nat) : Int) ((show (Sp.mn (((p : Nat) : Int) + 8) ((xs.length : Nat) : Int)) = ((p + n : Nat) : Int) from (by unfold Sp.mn; split <;> omega))) .i64) <|
      .p (jT (v' := .slice (some ⟨0, p, none⟩) n 0) (jN (t := 22) (x := .tmp 33) (lo := some (.tmp 34)) (hi := some (.tmp 39)) (k := 0) (off := 0) (n := xs.length) (c := 0) (z := 1) (l := ((p : Nat) : Int)) (h := ((p + n : Nat) : Int)) (m := n) (b := ⟨(xs.map i64v), 3, false, 1⟩) kK kK kK kK kK kK kK kK oO oO oO oO) (by rw [show (0 + (((p : Nat) : Int) : Int).toNat * 1) = p from by omega])) <|
      .p (cB #[.tmp 40] #[22] [.slice (some ⟨0, p, none⟩) n 0] 1 [(0, ⟨(xs.map i64v), 3, false, 1⟩)] [(6, ⟨(r.flatMap ptc), 29, true, 2⟩)] (.slice (some ⟨6, 0, none⟩) r.length 0) [0, 6] (p5 xs p n r oO oO hrr.symm) (.cons (.slice _ _ _ _ _ dD) .nil) ⟨rfl, ⟨rfl, rfl, rfl, (.flats (flats_map (fun _ => rfl) _))⟩, trivial⟩ ⟨rfl, ⟨rfl, rfl, rfl, (.flats (qA _))⟩, trivial⟩ (.slice _ _ _ _ _ dD)) <|
      .e 2 7) ?_
     refine aw_p 16119 (
      .a 2 8 <|
      .p (cB #[.tmp 42, .tmp 43] #[24, 3] [.slice (some ⟨6, 0, none⟩) r.length 0, .int .i64 (tol % 12)] 1 [(6, ⟨(r.flatMap ptc), 29, true, 2⟩)] [(6, ⟨(r.flatMap ptc), 29, true, 2⟩), (8, ⟨(ys.flatMap ptc), 29, true, 2⟩)] (.slice (some ⟨8, 0, none⟩) ys.length 0) [6, 8] (u6 r ys hfr oO (tol % 12) hL) (.cons (.slice _ _ _ _ _ dD) (.cons (.flatB kK) .nil)) ⟨rfl, ⟨rfl, rfl, rfl, (.flats (qA _))⟩, trivial⟩ ⟨rfl, ⟨rfl, rfl, rfl, (.flats (qA _))⟩, rfl, ⟨rfl, rfl, rfl, (.flats (qA _))⟩, trivial⟩ (.slice _ _ _ _ _ dD)) <|
      .e 1 9) ?_
     refine qD 32238 32239<|aw_p 64477 (
      .a 2 9 <| .p (qN false ((show (decide (((ys.length : Nat) : Int) < 2)) = false from decide_eq_false oO))) <| .a 3 9 <|
      .p (cB #[.tmp 49, .tmp 50] #[24, 34] [.slice (some ⟨8, 0, none⟩) ys.length 0, .func (.func 49) #[] #[.pointer (some ⟨7, 0, none⟩)]] 0 [(8, ⟨(ys.flatMap ptc), 29, true, 2⟩), (7, ⟨[.slice (some ⟨6, 0, none⟩) r.length 0], 24, true, 1⟩), (6, ⟨(r.flatMap ptc), 29, true, 2⟩)] [(8, ⟨(ys.flatMap ptc), 29, true, 2⟩), (7, ⟨[.slice (some ⟨6, 0, none⟩) r.length 0], 24, true, 1⟩), (6, ⟨(r.flatMap ptc), 29, true, 2⟩)] (.bool false) [8, 7, 6] (ctl_ok r _ ys hr8 hfr rfl hfy oO (fun i hi => Sp.qB5 (f2 _ (Sp.dJ hi)))) (.cons (.slice _ _ _ _ _ dD) (.cons (.funcL (.flats kK) (.cons (.ptr _ _ dD) .nil)) .nil)) ⟨rfl, ⟨rfl, rfl, rfl, (.flats (qA _))⟩, rfl, ⟨rfl, rfl, rfl, (.cons (.slice _ _ _ _ _ dD) .nil)⟩, rfl, ⟨rfl, rfl, rfl, (.flats (qA _))⟩, trivial⟩ ⟨rfl, ⟨rfl, rfl, rfl, (.flats (qA _))⟩, rfl, ⟨rfl, rfl, rfl, (.cons (.slice _ _ _ _ _ dD) .nil)⟩, rfl, ⟨rfl, rfl, rfl, (.flats (qA _))⟩, trivial⟩ (.flatB kK)) <|
      .e 1 9) ?_
     refine qP 128955<|qH<|aw_dL 64479 1 [1] ((List.range Y.length).map (· + 200)) [9] (ge200 _) (
      .a 1 9 <| .p (eF 1 9 (e := 24) (o := true) (TH := 24) (TP := 29) #[.tmp 53] #[36] [.slice (some ⟨1, 0, none⟩) Y.length 0] (cloneh_ok Y oO) kK (fun j hj => Eq.trans (b := famO 29 Y (j + 200)) kK (nU hj)) rfl) <| .a 2 10 <|
      .p (j2 11 24 1 24 9 Y.length 10 1 ⟨(hds (· + 200) Y), 24, true, 1⟩ ⟨[.slice (some ⟨6, 0, none⟩) r.length 0], 24, true, 1⟩ ((hds (· + 200) Y) ++ [.slice (some ⟨6, 0, none⟩) r.length 0]) kK kK kK kK kK (by rw [hds_len]; omega) oO oO rfl) <|
      .e 1 12) ?_
     refine aw_p 128959 (
      .a 1 12 <|
      .p (wF 11 (fun j => if j = Y.length then 6 else j + 200) #[.tmp 58] #[36] [.slice (some ⟨11, 0, none⟩) (Y.length + 1) 0] ((by have h := dQ (Y ++ [r]) (fun i => by rw [app_getD]; split; exact Nat.le_trans hr8.2 dD; exact Nat.le_trans (hw8 i) dD) (by simp; omega); rw [show (Y ++ [r]).length = Y.length + 1 from by simp] at h; exact h)) ⟨24, true, by rw [← qB7]; kernel_rfl⟩ (snoc_rows (TP := 29) kK z47) (show RenL (famS 11 (fun j => if j = Y.length then 6 else j + 200)) (· < 1 + (Y.length + 1)) [.slice (some ⟨0, 0, none⟩) (Y.length + 1) 0] [.slice (some ⟨11, 0, none⟩) (Y.length + 1) 0] from (.cons (.slice 0 _ _ _ _ z43) .nil)) (hn := by simp)) <|
      .e 1 12) ?_
     refine qY 257918 257919 ((Sp.lnsE (Y ++ [r])) == 0) (fun h9 => ?_) (fun h9 => ?_)
     ·have h9p : (((Sp.lnsE (Y ++ [r])) = 0)) := pB h9
      refine aw_e1 2 12<|qW (
       .a 1 12 <| .p (qJ (((p : Nat) : Int) + 8) (wrap_i64 oO oO) .i64) <| .e 1 12) ?_
      have hS : Sp.lnsE (Y ++ [r]) = 0 := (by first | assumption | (simpa using h9))
      refine wZ (qBB (b0 := ⟨(xs.map i64v), 3, false, 1⟩) (K := 1) (K0 := 11) (q := 6) (t := 5) (n := (Y.length + 1)) (Y := Y) (r := r) (TP := 29) (TH := 24) (T := [(0, .slice (some ⟨0, 0, none⟩) xs.length 0), (1, .int .i64 (tol % 12)), (6, .int .i64 ((p + 8 : Nat) : Int))]) rfl ⟨by decide, by decide⟩ ⟨by decide, by decide⟩ ⟨by decide, by decide, by decide⟩ kK kK kK kK rfl (flats_map (fun _ => rfl) _) kK kK z47) ?_
      have hyl : (Y ++ [r]).length = Y.length + 1 := (by simp)
      exact al_wFh (ih5 ((p + 8), (Y ++ [r])) (show ((p + 8) ≤ xs.length + 8) ∧ (Sp.lnsE (Y ++ [r]) = 0) ∧ (1 ≤ (Y ++ [r]).length ∧ (Y ++ [r]).length ≤ 4) from ⟨by omega, hS, by rw [hyl]; omega⟩) (show xs.length + 8 - (p + 8) < xs.length + 8 - p from by omega)) ⟨(i64_cl _ _ _), (jJ _ _ _), trivial⟩ (uC _ _) (by rw [hyl]; kernel_rfl)
     have h9p : ¬ (((Sp.lnsE (Y ++ [r])) = 0)) := pB h9
     refine qH<|qW (
      .a 1 12 <| .p (qJ (((p : Nat) : Int) + 8) (wrap_i64 oO oO) .i64) <| .e 1 12) ?_
     exact al_wFh (ih5 ((p + 8), Y) (show ((p + 8) ≤ xs.length + 8) ∧ (Sp.lnsE Y = 0) ∧ (1 ≤ Y.length ∧ Y.length ≤ 4) from ⟨by omega, by (exact hW), by omega⟩) (show xs.length + 8 - (p + 8) < xs.length + 8 - p from by omega)) ⟨(i64_cl _ _ _), (jJ _ _ _), trivial⟩ (uC _ _)
    have h8p : ¬ ((((Y.length : Nat) : Int) < 4)) := pB h8
    refine q5 0<|qG<|yL (freeze (kh := 1) (nm := (· + 200)) (X := Y) (o := true) (e := 24) (TH := 24) (TP := 29) (T := [(1, .int .i64 (tol % 12)), (5, .slice (some ⟨1, 0, none⟩) Y.length 0)]) rfl ⟨by decide, by decide⟩ kK kK kK (fun j hj => ⟨true, Eq.trans (b := famO 29 Y (j + 200)) kK (nU hj)⟩)) ?_
    exact yW (tl Y ⟨hW, by omega⟩) ⟨(jL j1 _ _ _), trivial⟩ (jH nD)
   have h7p : ¬ ((((p : Nat) : Int) < ((xs.length : Nat) : Int))) := pB h7
   refine aw_p 2013 (
    .a 3 6 <| .p (qN false (h7)) <| .e 5 6) ?_
   refine qP 4027<|q5 0<|qG<|yL (freeze (kh := 1) (nm := (· + 200)) (X := Y) (o := true) (e := 24) (TH := 24) (TP := 29) (T := [(1, .int .i64 (tol % 12)), (5, .slice (some ⟨1, 0, none⟩) Y.length 0)]) rfl ⟨by decide, by decide⟩ kK kK kK (fun j hj => ⟨true, Eq.trans (b := famO 29 Y (j + 200)) kK (nU hj)⟩)) ?_
   exact yW (tl Y ⟨hW, by omega⟩) ⟨(jL j1 _ _ _), trivial⟩ (jH nD)
  have h6p : ¬ (((Sp.lnsE [r]) = 0)) := pB h6
  refine qH<|qW (
   .a 1 6 <| .p (qJ (((p : Nat) : Int) + 8) (wrap_i64 oO oO) .i64) <| .e 1 6) ?_
  exact al_w _ _ (ih4 (p + 8) (show ((p + 8) ≤ xs.length + 8) from by omega) (show xs.length + 8 - (p + 8) < xs.length + 8 - p from by omega)) (hc := z15)
 have h5p : ¬ ((((p : Nat) : Int) < ((xs.length : Nat) : Int))) := pB h5
 refine aw_p 2013 (
  .a 3 1 <| .p (qN false (h5)) <| .e 5 1) ?_
 refine qP 4027<|q5 0<|qG<|yL (nil_fam (kh := 1) (t := 5) (TH := 24) (TP := 29) (T := [(1, .int .i64 (tol % 12))]) rfl ⟨by decide, by decide⟩ kK kK kK) ?_
 exact yW (tl [] ⟨Sp.lns_nil, by decide⟩) ⟨(jL j1 _ _ _), trivial⟩ (jH nD)
end Go.Proofs.Ytadifmimefmcnaa.Am
