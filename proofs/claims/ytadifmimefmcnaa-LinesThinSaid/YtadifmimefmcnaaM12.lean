import Derived.Test.YtadifmimefmcnaaProg
import Derived.Test.YtadifmimefmcnaaM2
import Derived.Test.YtadifmimefmcnaaM11
import Derived.Test.YtadifmimefmcnaaM4
import Derived.Test.YtadifmimefmcnaaM9
import Derived.Test.YtadifmimefmcnaaM6
import Derived.Test.YtadifmimefmcnaaM5
import Derived.Test.YtadifmimefmcnaaM0
set_option maxHeartbeats 4000000
set_option linter.unusedVariables false
set_option linter.unusedSimpArgs false
namespace Go.Proofs.Ytadifmimefmcnaa.Am
open Go Go.Proofs
theorem hullof_ro (ps qs ss ds h : List (Int × Int)) (hq : ps.map Sp.lmP = qs) (hss : srtP qs = ss) (hds : Sp.ddp ss = ds) (hh : Sp.vA qs = h) (h1 : 1 ≤ ps.length) (hz : ps.length ≤ 8796093021952) :
    AC Try.prog 36 1 ([.slice (some ⟨0, 0, none⟩) ps.length 0]) [(0, ⟨(ps.flatMap ptc), 29, false, 2⟩)] (.slice (some ⟨1, 0, none⟩) h.length 0) [(1, ⟨(h.flatMap ptc), 29, true, 2⟩)] := by
 have hql : qs.length = ps.length := z40; have hf : Sp.Few 1048576 qs := (hq ▸ Sp.fD ps); have hsl : ss.length = qs.length := (by rw [← hss, x9]); have hsm : ∀ p ∈ ss, p ∈ qs := (fun p hp => (xU qs).mem_iff.1 (hss ▸ hp)); have hdm : ∀ p ∈ ds, p ∈ qs := (fun p hp => hsm p (Sp.uL.1 (hds ▸ hp))); have hdl : ds.length ≤ ss.length := (hds ▸ Sp.wG ss); have hdp : 1 ≤ ds.length := (hds ▸ Sp.ddp_pos oO); have hfd : Sp.Few 1048576 ds := Sp.xH dD hf hdm; have hfr : Sp.Few 1048576 ds.reverse := Sp.xH dD hfd (fun p hp => List.mem_reverse.1 hp); have hfc : Sp.Few 1048576 (Sp.chO ds) := Sp.xH dD hfd (fun p hp => Sp.chO_mem hp); have hcl := Sp.mH ds; have hrl : ds.reverse.length = ds.length := List.length_reverse; have hdr : ds.Pairwise Sp.lxP := (by rw [← hds, ← hss]; exact Sp.dB qs); have hzc : ∀ i, i ≤ ds.reverse.length → (Sp.chO ds).length + (Sp.stk ds.reverse i).length ≤ 8796093022000 := (fun i hi => (by have k := Sp.qC5 hdr oO (i := i) oO; omega))
 refine qK Try.func36 (fun w0 W pin => ?_)
 refine aw_e 3 1 2<|aw_p 7 (
  .a 2 2 <| .p (vS (kl := .i64) (kc := .i64) (n' := 0) (c' := ((ps.length : Nat) : Int)) 2 29 2 16 0 ps.length (.agg #[.int .i64 0, .int .i64 0]) [] kK kK kK kK dD rfl oO oO oO) <| .e 1 3) ?_
 refine qD 14 15<|aw_e 29 3 3<|qM 0 59<|q6 119<|al_w _ _ (jS (fun i : Nat => (fun (i : Nat) => mkSt 1 [(2, .slice none 0 0), (3, .slice (some ⟨2, 0, none⟩) i 0), (10, .slice (some ⟨0, 0, none⟩) ps.length 0), (11, .int .i64 ((ps.length : Nat) : Int)), (12, .int .i64 ((i : Nat) : Int))] [(0, ⟨(ps.flatMap ptc), 29, false, 2⟩), (2, ⟨(((ps.take i).map Sp.lmP).flatMap ptc), 29, true, 2⟩)]) i) (fun i : Nat => (fun (i : Nat) => (i ≤ ps.length)) i) (fun i : Nat => (fun (i : Nat) => ps.length - i) i) (fun i hi1 ih1 => ?_) 0 (show (0 ≤ ps.length) from by omega)) (hc := z15)
 obtain ⟨i, hv1⟩ : ∃ z, z = i := ⟨i, rfl⟩; subst hv1
 have hi1' : (i ≤ ps.length) := hi1
 have hi : i ≤ ps.length := hi1'
 show AL _ _ _ (mkSt _ _ _) _
 refine qE<|aw_e 239 1 3<|qD 478 479<|qY 956 957 (decide (((i : Nat) : Int) < ((ps.length : Nat) : Int))) (fun h1 => ?_) (fun h1 => ?_)
 ·have h1p : ((((i : Nat) : Int) < ((ps.length : Nat) : Int))) := pB h1
  have hil : i < ps.length := by omega
  refine qH<|qD 958 959<|qM 1 1917<|aw_p 3835 (
   .p (iX 24 10 12 0 0 ps.length 2 ((i : Nat) : Int) oO oO) <|
   .p (lD 29 14 0 (0 + (((i : Nat) : Int)).toNat * 2) ⟨(ps.flatMap ptc), 29, false, 2⟩ (.agg #[.int .i64 ((ps.getD i (0, 0)).1), .int .i64 ((ps.getD i (0, 0)).2)]) (qL (j := i) kK kK oO oO)) <|
   .e 2 3) ?_
  refine qW (
   .a 2 4 <| .p (qC (j6 ((ps.getD i (0, 0)).1) ((ps.getD i (0, 0)).2))) <| .a 1 4 <|
   .p (j2 5 29 2 16 2 i 4 1 ⟨(((ps.take i).map Sp.lmP).flatMap ptc), 29, true, 2⟩ ⟨[.int .i64 (Sp.lim 1048576 ((ps.getD i (0, 0)).1)), .int .i64 (Sp.lim 1048576 ((ps.getD i (0, 0)).2))], 29, true, 2⟩ (((ps.take (i + 1)).map Sp.lmP).flatMap ptc) kK kK kK kK kK z23 oO oO (Sp.y5 hil rfl)) <|
   .e 1 6) ?_
  refine qW (
   .p (qJ (((i : Nat) : Int) + 1) (wrap_i64 oO oO) .i64) <| .e 1 6) ?_
  refine al_r [(2, 5)] [(2, .slice none 0 0), (3, .slice (some ⟨5, 0, none⟩) (i + 1) 0), (10, .slice (some ⟨0, 0, none⟩) ps.length 0), (11, .int .i64 ((ps.length : Nat) : Int)), (12, .int .i64 (((i + 1) : Nat) : Int))] [(0, ⟨(ps.flatMap ptc), 29, false, 2⟩), (5, ⟨(((ps.take (i + 1)).map Sp.lmP).flatMap ptc), 29, true, 2⟩)] [(2, .slice none 0 0), (3, .slice (some ⟨2, 0, none⟩) (i + 1) 0), (10, .slice (some ⟨0, 0, none⟩) ps.length 0), (11, .int .i64 ((ps.length : Nat) : Int)), (12, .int .i64 (((i + 1) : Nat) : Int))] [(0, ⟨(ps.flatMap ptc), 29, false, 2⟩), (2, ⟨(((ps.take (i + 1)).map Sp.lmP).flatMap ptc), 29, true, 2⟩)] ?_ ⟨rfl, (.flatB kK), rfl, (.slice _ _ _ _ _ rfl), rfl, (.slice _ _ _ _ _ rfl), rfl, (.flatB kK), rfl, (.flatB kK), trivial⟩ ⟨rfl, ⟨rfl, rfl, rfl, (.flats (qA _))⟩, rfl, ⟨rfl, rfl, rfl, (.flats (qA _))⟩, trivial⟩
  exact ih1 (i + 1) (show ((i + 1) ≤ ps.length) from by omega) (show ps.length - (i + 1) < ps.length - i from by omega)
 have h1p : ¬ ((((i : Nat) : Int) < ((ps.length : Nat) : Int))) := pB h1
 have hin : i = ps.length := by omega
 refine q5 0<|qG<|aw_w [(2, .slice none 0 0), (3, .slice (some ⟨2, 0, none⟩) qs.length 0)] [(0, ⟨(ps.flatMap ptc), 29, false, 2⟩), (2, ⟨(qs.flatMap ptc), 29, true, 2⟩)] ?_ z16 z16 (hc := z15)
 refine aw_p 31 (
  .a 1 3 <|
  .p (cB #[.tmp 22, .func 82] #[24, 52] [.slice (some ⟨2, 0, none⟩) qs.length 0, .func (.func 82) #[] #[]] 0 [(2, ⟨(qs.flatMap ptc), 29, true, 2⟩)] [(2, ⟨((srtP qs).flatMap ptc), 29, true, 2⟩)] (.tuple #[]) [2] (ac_sort Sh.ltP Sh.sortsP qs oO oO) (.cons (.slice _ _ _ _ _ dD) (.cons (.flatB kK) .nil)) ⟨rfl, ⟨rfl, rfl, rfl, (.flats (qA _))⟩, trivial⟩ ⟨rfl, ⟨rfl, rfl, rfl, (.flats (qA _))⟩, trivial⟩ (.flatB kK)) <| .nil _ _) ?_
 refine aw_w [(2, .slice none 0 0), (3, .slice (some ⟨2, 0, none⟩) ss.length 0)] [(0, ⟨(ps.flatMap ptc), 29, false, 2⟩), (2, ⟨(ss.flatMap ptc), 29, true, 2⟩)] ?_ z34 z34 (hc := z15)
 refine aw_p 63 (
  .a 1 3 <|
  .p (cB #[.tmp 24] #[24] [.slice (some ⟨2, 0, none⟩) ss.length 0] 0 [(2, ⟨(ss.flatMap ptc), 29, true, 2⟩)] [(2, ⟨((Sp.ddp ss).flatMap ptc), 29, true, 2⟩)] (.slice (some ⟨2, 0, none⟩) ((Sp.ddp ss).length) 0) [2] (mD ss oO) (.cons (.slice _ _ _ _ _ dD) .nil) ⟨rfl, ⟨rfl, rfl, rfl, (.flats (qA _))⟩, trivial⟩ ⟨rfl, ⟨rfl, rfl, rfl, (.flats (qA _))⟩, trivial⟩ (.slice _ _ _ _ _ dD)) <|
  .e 1 3) ?_
 refine aw_w [(2, .slice none 0 0), (3, .slice (some ⟨2, 0, none⟩) ds.length 0)] [(0, ⟨(ps.flatMap ptc), 29, false, 2⟩), (2, ⟨(ds.flatMap ptc), 29, true, 2⟩)] ?_ (by (try rw [← hds]); kernel_rfl) (by (try rw [← hds]); kernel_rfl) (hc := z15)
 refine qD 126 127<|aw_e 253 3 3<|qY 506 507 (decide (((ds.length : Nat) : Int) < 2)) (fun h2 => ?_) (fun h2 => ?_)
 ·have h2p : ((((ds.length : Nat) : Int) < 2)) := pB h2
  refine aw_e 1013 2 3 ?_
  have hhe : h = ds := hh.symm.trans (Sp.c5 hss hds oO)
  refine aw_w [(2, .slice (some ⟨2, 0, none⟩) h.length 0)] [(2, ⟨(h.flatMap ptc), 29, true, 2⟩)] ?_ z44 z44 (hc := z15)
  refine aw_r [(1, 2)] [(2, .slice (some ⟨2, 0, none⟩) h.length 0)] [(2, ⟨(h.flatMap ptc), 29, true, 2⟩)] [(2, .slice (some ⟨1, 0, none⟩) h.length 0)] [(1, ⟨(h.flatMap ptc), 29, true, 2⟩)] ?_ ⟨rfl, (.slice _ _ _ _ _ rfl), trivial⟩ ⟨rfl, ⟨rfl, rfl, rfl, (.flats (qA _))⟩, trivial⟩
  exact qF<|qB [.slice (some ⟨1, 0, none⟩) h.length 0] kK
 have h2p : ¬ ((((ds.length : Nat) : Int) < 2)) := pB h2
 refine qH<|aw_p 255 (
  .a 1 3 <|
  .p (cB #[.const (.slice none 0 0), .tmp 30] #[24, 24] [.slice none 0 0, .slice (some ⟨2, 0, none⟩) ds.length 0] 1 [(2, ⟨(ds.flatMap ptc), 29, true, 2⟩)] [(2, ⟨(ds.flatMap ptc), 29, true, 2⟩), (3, ⟨((Sp.chO ds).flatMap ptc), 29, true, 2⟩)] (.slice (some ⟨3, 0, none⟩) ((Sp.chO ds).length) 0) [2, 3] (lK ds hfd oO oO) (.cons (.flatB kK) (.cons (.slice _ _ _ _ _ dD) .nil)) ⟨rfl, ⟨rfl, rfl, rfl, (.flats (qA _))⟩, trivial⟩ ⟨rfl, ⟨rfl, rfl, rfl, (.flats (qA _))⟩, rfl, ⟨rfl, rfl, rfl, (.flats (qA _))⟩, trivial⟩ (.slice _ _ _ _ _ dD)) <|
  .e 1 4) ?_
 refine aw_p 511 (
  .a 1 4 <|
  .p (cB #[.tmp 32] #[24] [.slice (some ⟨2, 0, none⟩) ds.length 0] 0 [(2, ⟨(ds.flatMap ptc), 29, true, 2⟩)] [(2, ⟨(ds.reverse.flatMap ptc), 29, true, 2⟩)] (.tuple #[]) [2] (rev_ok ds oO oO) (.cons (.slice _ _ _ _ _ dD) .nil) ⟨rfl, ⟨rfl, rfl, rfl, (.flats (qA _))⟩, trivial⟩ ⟨rfl, ⟨rfl, rfl, rfl, (.flats (qA _))⟩, trivial⟩ (.flatB kK)) <| .nil _ _) ?_
 refine aw_w [(2, .slice none 0 0), (3, .slice (some ⟨2, 0, none⟩) ds.reverse.length 0), (6, .slice (some ⟨3, 0, none⟩) ((Sp.chO ds).length) 0)] [(0, ⟨(ps.flatMap ptc), 29, false, 2⟩), (2, ⟨(ds.reverse.flatMap ptc), 29, true, 2⟩), (3, ⟨((Sp.chO ds).flatMap ptc), 29, true, 2⟩)] ?_ (by (try rw [hrl]); kernel_rfl) (by (try rw [hrl]); kernel_rfl) (hc := z15)
 refine aw_p 1023 (
  .a 2 4 <|
  .p (cB #[.tmp 34, .tmp 35] #[24, 24] [.slice (some ⟨3, 0, none⟩) ((Sp.chO ds).length) 0, .slice (some ⟨2, 0, none⟩) ds.reverse.length 0] 1 [(3, ⟨((Sp.chO ds).flatMap ptc), 29, true, 2⟩), (2, ⟨(ds.reverse.flatMap ptc), 29, true, 2⟩)] [(2, ⟨(ds.reverse.flatMap ptc), 29, true, 2⟩), (4, ⟨(((Sp.chO ds) ++ Sp.chO ds.reverse).flatMap ptc), 29, true, 2⟩)] (.slice (some ⟨4, 0, none⟩) (((Sp.chO ds) ++ Sp.chO ds.reverse).length) 0) [3, 2, 4] (lL (Sp.chO ds) ds.reverse hfc hfr oO hzc oO) (.cons (.slice _ _ _ _ _ dD) (.cons (.slice _ _ _ _ _ dD) .nil)) ⟨rfl, ⟨rfl, rfl, rfl, (.flats (qA _))⟩, rfl, ⟨rfl, rfl, rfl, (.flats (qA _))⟩, trivial⟩ ⟨rfl, ⟨rfl, rfl, rfl, (.flats (qA _))⟩, rfl, ⟨rfl, rfl, rfl, (.flats (qA _))⟩, trivial⟩ (.slice _ _ _ _ _ dD)) <|
  .e 1 5) ?_
 have hhe : h = Sp.chO ds ++ Sp.chO ds.reverse := hh.symm.trans (Sp.p9 hss hds oO)
 refine aw_w [(2, .slice (some ⟨4, 0, none⟩) h.length 0)] [(4, ⟨(h.flatMap ptc), 29, true, 2⟩)] ?_ z44 z44 (hc := z15)
 refine aw_r [(1, 4)] [(2, .slice (some ⟨4, 0, none⟩) h.length 0)] [(4, ⟨(h.flatMap ptc), 29, true, 2⟩)] [(2, .slice (some ⟨1, 0, none⟩) h.length 0)] [(1, ⟨(h.flatMap ptc), 29, true, 2⟩)] ?_ ⟨rfl, (.slice _ _ _ _ _ rfl), trivial⟩ ⟨rfl, ⟨rfl, rfl, rfl, (.flats (qA _))⟩, trivial⟩
 exact qF<|qB [.slice (some ⟨1, 0, none⟩) h.length 0] kK
theorem qED (ps qs ss ds h : List (Int × Int)) (hq : ps.map Sp.lmP = qs) (hss : srtP qs = ss) (hds : Sp.ddp ss = ds) (hh : Sp.vA qs = h) (h1 : 1 ≤ ps.length) (hz : ps.length ≤ 8796093021952) :
    AC Try.prog 36 1 ([.slice (some ⟨0, 0, none⟩) ps.length 0]) [(0, ⟨(ps.flatMap ptc), 29, true, 2⟩)] (.slice (some ⟨1, 0, none⟩) h.length 0) [(0, ⟨(ps.flatMap ptc), 29, true, 2⟩), (1, ⟨(h.flatMap ptc), 29, true, 2⟩)] := by
 have hql : qs.length = ps.length := z40; have hf : Sp.Few 1048576 qs := (hq ▸ Sp.fD ps); have hsl : ss.length = qs.length := (by rw [← hss, x9]); have hsm : ∀ p ∈ ss, p ∈ qs := (fun p hp => (xU qs).mem_iff.1 (hss ▸ hp)); have hdm : ∀ p ∈ ds, p ∈ qs := (fun p hp => hsm p (Sp.uL.1 (hds ▸ hp))); have hdl : ds.length ≤ ss.length := (hds ▸ Sp.wG ss); have hdp : 1 ≤ ds.length := (hds ▸ Sp.ddp_pos oO); have hfd : Sp.Few 1048576 ds := Sp.xH dD hf hdm; have hfr : Sp.Few 1048576 ds.reverse := Sp.xH dD hfd (fun p hp => List.mem_reverse.1 hp); have hfc : Sp.Few 1048576 (Sp.chO ds) := Sp.xH dD hfd (fun p hp => Sp.chO_mem hp); have hcl := Sp.mH ds; have hrl : ds.reverse.length = ds.length := List.length_reverse; have hdr : ds.Pairwise Sp.lxP := (by rw [← hds, ← hss]; exact Sp.dB qs); have hzc : ∀ i, i ≤ ds.reverse.length → (Sp.chO ds).length + (Sp.stk ds.reverse i).length ≤ 8796093022000 := (fun i hi => (by have k := Sp.qC5 hdr oO (i := i) oO; omega))
 refine qK Try.func36 (fun w0 W pin => ?_)
 refine aw_e 3 1 2<|aw_p 7 (
  .a 2 2 <| .p (vS (kl := .i64) (kc := .i64) (n' := 0) (c' := ((ps.length : Nat) : Int)) 2 29 2 16 0 ps.length (.agg #[.int .i64 0, .int .i64 0]) [] kK kK kK kK dD rfl oO oO oO) <| .e 1 3) ?_
 refine qD 14 15<|aw_e 29 3 3<|qM 0 59<|q6 119<|al_w _ _ (jS (fun i : Nat => (fun (i : Nat) => mkSt 1 [(2, .slice none 0 0), (3, .slice (some ⟨2, 0, none⟩) i 0), (10, .slice (some ⟨0, 0, none⟩) ps.length 0), (11, .int .i64 ((ps.length : Nat) : Int)), (12, .int .i64 ((i : Nat) : Int))] [(0, ⟨(ps.flatMap ptc), 29, true, 2⟩), (2, ⟨(((ps.take i).map Sp.lmP).flatMap ptc), 29, true, 2⟩)]) i) (fun i : Nat => (fun (i : Nat) => (i ≤ ps.length)) i) (fun i : Nat => (fun (i : Nat) => ps.length - i) i) (fun i hi1 ih1 => ?_) 0 (show (0 ≤ ps.length) from by omega)) (hc := z15)
 obtain ⟨i, hv1⟩ : ∃ z, z = i := ⟨i, rfl⟩; subst hv1
 have hi1' : (i ≤ ps.length) := hi1
 have hi : i ≤ ps.length := hi1'
 show AL _ _ _ (mkSt _ _ _) _
 refine qE<|aw_e 239 1 3<|qD 478 479<|qY 956 957 (decide (((i : Nat) : Int) < ((ps.length : Nat) : Int))) (fun h1 => ?_) (fun h1 => ?_)
 ·have h1p : ((((i : Nat) : Int) < ((ps.length : Nat) : Int))) := pB h1
  have hil : i < ps.length := by omega
  refine qH<|qD 958 959<|qM 1 1917<|aw_p 3835 (
   .p (iX 24 10 12 0 0 ps.length 2 ((i : Nat) : Int) oO oO) <|
   .p (lD 29 14 0 (0 + (((i : Nat) : Int)).toNat * 2) ⟨(ps.flatMap ptc), 29, true, 2⟩ (.agg #[.int .i64 ((ps.getD i (0, 0)).1), .int .i64 ((ps.getD i (0, 0)).2)]) (qL (j := i) kK kK oO oO)) <|
   .e 2 3) ?_
  refine qW (
   .a 2 4 <| .p (qC (j6 ((ps.getD i (0, 0)).1) ((ps.getD i (0, 0)).2))) <| .a 1 4 <|
   .p (j2 5 29 2 16 2 i 4 1 ⟨(((ps.take i).map Sp.lmP).flatMap ptc), 29, true, 2⟩ ⟨[.int .i64 (Sp.lim 1048576 ((ps.getD i (0, 0)).1)), .int .i64 (Sp.lim 1048576 ((ps.getD i (0, 0)).2))], 29, true, 2⟩ (((ps.take (i + 1)).map Sp.lmP).flatMap ptc) kK kK kK kK kK z23 oO oO (Sp.y5 hil rfl)) <|
   .e 1 6) ?_
  refine qW (
   .p (qJ (((i : Nat) : Int) + 1) (wrap_i64 oO oO) .i64) <| .e 1 6) ?_
  refine al_r [(2, 5)] [(2, .slice none 0 0), (3, .slice (some ⟨5, 0, none⟩) (i + 1) 0), (10, .slice (some ⟨0, 0, none⟩) ps.length 0), (11, .int .i64 ((ps.length : Nat) : Int)), (12, .int .i64 (((i + 1) : Nat) : Int))] [(0, ⟨(ps.flatMap ptc), 29, true, 2⟩), (5, ⟨(((ps.take (i + 1)).map Sp.lmP).flatMap ptc), 29, true, 2⟩)] [(2, .slice none 0 0), (3, .slice (some ⟨2, 0, none⟩) (i + 1) 0), (10, .slice (some ⟨0, 0, none⟩) ps.length 0), (11, .int .i64 ((ps.length : Nat) : Int)), (12, .int .i64 (((i + 1) : Nat) : Int))] [(0, ⟨(ps.flatMap ptc), 29, true, 2⟩), (2, ⟨(((ps.take (i + 1)).map Sp.lmP).flatMap ptc), 29, true, 2⟩)] ?_ ⟨rfl, (.flatB kK), rfl, (.slice _ _ _ _ _ rfl), rfl, (.slice _ _ _ _ _ rfl), rfl, (.flatB kK), rfl, (.flatB kK), trivial⟩ ⟨rfl, ⟨rfl, rfl, rfl, (.flats (qA _))⟩, rfl, ⟨rfl, rfl, rfl, (.flats (qA _))⟩, trivial⟩
  exact ih1 (i + 1) (show ((i + 1) ≤ ps.length) from by omega) (show ps.length - (i + 1) < ps.length - i from by omega)
 have h1p : ¬ ((((i : Nat) : Int) < ((ps.length : Nat) : Int))) := pB h1
 have hin : i = ps.length := by omega
 refine q5 0<|qG<|aw_w [(2, .slice none 0 0), (3, .slice (some ⟨2, 0, none⟩) qs.length 0)] [(0, ⟨(ps.flatMap ptc), 29, true, 2⟩), (2, ⟨(qs.flatMap ptc), 29, true, 2⟩)] ?_ z16 z16 (hc := z15)
 refine aw_p 31 (
  .a 1 3 <|
  .p (cB #[.tmp 22, .func 82] #[24, 52] [.slice (some ⟨2, 0, none⟩) qs.length 0, .func (.func 82) #[] #[]] 0 [(2, ⟨(qs.flatMap ptc), 29, true, 2⟩)] [(2, ⟨((srtP qs).flatMap ptc), 29, true, 2⟩)] (.tuple #[]) [2] (ac_sort Sh.ltP Sh.sortsP qs oO oO) (.cons (.slice _ _ _ _ _ dD) (.cons (.flatB kK) .nil)) ⟨rfl, ⟨rfl, rfl, rfl, (.flats (qA _))⟩, trivial⟩ ⟨rfl, ⟨rfl, rfl, rfl, (.flats (qA _))⟩, trivial⟩ (.flatB kK)) <| .nil _ _) ?_
 refine aw_w [(2, .slice none 0 0), (3, .slice (some ⟨2, 0, none⟩) ss.length 0)] [(0, ⟨(ps.flatMap ptc), 29, true, 2⟩), (2, ⟨(ss.flatMap ptc), 29, true, 2⟩)] ?_ z34 z34 (hc := z15)
 refine aw_p 63 (
  .a 1 3 <|
  .p (cB #[.tmp 24] #[24] [.slice (some ⟨2, 0, none⟩) ss.length 0] 0 [(2, ⟨(ss.flatMap ptc), 29, true, 2⟩)] [(2, ⟨((Sp.ddp ss).flatMap ptc), 29, true, 2⟩)] (.slice (some ⟨2, 0, none⟩) ((Sp.ddp ss).length) 0) [2] (mD ss oO) (.cons (.slice _ _ _ _ _ dD) .nil) ⟨rfl, ⟨rfl, rfl, rfl, (.flats (qA _))⟩, trivial⟩ ⟨rfl, ⟨rfl, rfl, rfl, (.flats (qA _))⟩, trivial⟩ (.slice _ _ _ _ _ dD)) <|
  .e 1 3) ?_
 refine aw_w [(2, .slice none 0 0), (3, .slice (some ⟨2, 0, none⟩) ds.length 0)] [(0, ⟨(ps.flatMap ptc), 29, true, 2⟩), (2, ⟨(ds.flatMap ptc), 29, true, 2⟩)] ?_ (by (try rw [← hds]); kernel_rfl) (by (try rw [← hds]); kernel_rfl) (hc := z15)
 refine qD 126 127<|aw_e 253 3 3<|qY 506 507 (decide (((ds.length : Nat) : Int) < 2)) (fun h2 => ?_) (fun h2 => ?_)
 ·have h2p : ((((ds.length : Nat) : Int) < 2)) := pB h2
  refine aw_e 1013 2 3 ?_
  have hhe : h = ds := hh.symm.trans (Sp.c5 hss hds oO)
  refine aw_w [(2, .slice (some ⟨2, 0, none⟩) h.length 0)] [(0, ⟨(ps.flatMap ptc), 29, true, 2⟩), (2, ⟨(h.flatMap ptc), 29, true, 2⟩)] ?_ z44 z44 (hc := z15)
  refine aw_r [(1, 2)] [(2, .slice (some ⟨2, 0, none⟩) h.length 0)] [(0, ⟨(ps.flatMap ptc), 29, true, 2⟩), (2, ⟨(h.flatMap ptc), 29, true, 2⟩)] [(2, .slice (some ⟨1, 0, none⟩) h.length 0)] [(0, ⟨(ps.flatMap ptc), 29, true, 2⟩), (1, ⟨(h.flatMap ptc), 29, true, 2⟩)] ?_ ⟨rfl, (.slice _ _ _ _ _ rfl), trivial⟩ ⟨rfl, ⟨rfl, rfl, rfl, (.flats (qA _))⟩, rfl, ⟨rfl, rfl, rfl, (.flats (qA _))⟩, trivial⟩
  exact qF<|qB [.slice (some ⟨1, 0, none⟩) h.length 0] kK
 have h2p : ¬ ((((ds.length : Nat) : Int) < 2)) := pB h2
 refine qH<|aw_p 255 (
  .a 1 3 <|
  .p (cB #[.const (.slice none 0 0), .tmp 30] #[24, 24] [.slice none 0 0, .slice (some ⟨2, 0, none⟩) ds.length 0] 1 [(2, ⟨(ds.flatMap ptc), 29, true, 2⟩)] [(2, ⟨(ds.flatMap ptc), 29, true, 2⟩), (3, ⟨((Sp.chO ds).flatMap ptc), 29, true, 2⟩)] (.slice (some ⟨3, 0, none⟩) ((Sp.chO ds).length) 0) [2, 3] (lK ds hfd oO oO) (.cons (.flatB kK) (.cons (.slice _ _ _ _ _ dD) .nil)) ⟨rfl, ⟨rfl, rfl, rfl, (.flats (qA _))⟩, trivial⟩ ⟨rfl, ⟨rfl, rfl, rfl, (.flats (qA _))⟩, rfl, ⟨rfl, rfl, rfl, (.flats (qA _))⟩, trivial⟩ (.slice _ _ _ _ _ dD)) <|
  .e 1 4) ?_
 refine aw_p 511 (
  .a 1 4 <|
  .p (cB #[.tmp 32] #[24] [.slice (some ⟨2, 0, none⟩) ds.length 0] 0 [(2, ⟨(ds.flatMap ptc), 29, true, 2⟩)] [(2, ⟨(ds.reverse.flatMap ptc), 29, true, 2⟩)] (.tuple #[]) [2] (rev_ok ds oO oO) (.cons (.slice _ _ _ _ _ dD) .nil) ⟨rfl, ⟨rfl, rfl, rfl, (.flats (qA _))⟩, trivial⟩ ⟨rfl, ⟨rfl, rfl, rfl, (.flats (qA _))⟩, trivial⟩ (.flatB kK)) <| .nil _ _) ?_
 refine aw_w [(2, .slice none 0 0), (3, .slice (some ⟨2, 0, none⟩) ds.reverse.length 0), (6, .slice (some ⟨3, 0, none⟩) ((Sp.chO ds).length) 0)] [(0, ⟨(ps.flatMap ptc), 29, true, 2⟩), (2, ⟨(ds.reverse.flatMap ptc), 29, true, 2⟩), (3, ⟨((Sp.chO ds).flatMap ptc), 29, true, 2⟩)] ?_ (by (try rw [hrl]); kernel_rfl) (by (try rw [hrl]); kernel_rfl) (hc := z15)
 refine aw_p 1023 (
  .a 2 4 <|
  .p (cB #[.tmp 34, .tmp 35] #[24, 24] [.slice (some ⟨3, 0, none⟩) ((Sp.chO ds).length) 0, .slice (some ⟨2, 0, none⟩) ds.reverse.length 0] 1 [(3, ⟨((Sp.chO ds).flatMap ptc), 29, true, 2⟩), (2, ⟨(ds.reverse.flatMap ptc), 29, true, 2⟩)] [(2, ⟨(ds.reverse.flatMap ptc), 29, true, 2⟩), (4, ⟨(((Sp.chO ds) ++ Sp.chO ds.reverse).flatMap ptc), 29, true, 2⟩)] (.slice (some ⟨4, 0, none⟩) (((Sp.chO ds) ++ Sp.chO ds.reverse).length) 0) [3, 2, 4] (lL (Sp.chO ds) ds.reverse hfc hfr oO hzc oO) (.cons (.slice _ _ _ _ _ dD) (.cons (.slice _ _ _ _ _ dD) .nil)) ⟨rfl, ⟨rfl, rfl, rfl, (.flats (qA _))⟩, rfl, ⟨rfl, rfl, rfl, (.flats (qA _))⟩, trivial⟩ ⟨rfl, ⟨rfl, rfl, rfl, (.flats (qA _))⟩, rfl, ⟨rfl, rfl, rfl, (.flats (qA _))⟩, trivial⟩ (.slice _ _ _ _ _ dD)) <|
  .e 1 5) ?_
 have hhe : h = Sp.chO ds ++ Sp.chO ds.reverse := hh.symm.trans (Sp.p9 hss hds oO)
 refine aw_w [(2, .slice (some ⟨4, 0, none⟩) h.length 0)] [(0, ⟨(ps.flatMap ptc), 29, true, 2⟩), (4, ⟨(h.flatMap ptc), 29, true, 2⟩)] ?_ z44 z44 (hc := z15)
 refine aw_r [(1, 4)] [(2, .slice (some ⟨4, 0, none⟩) h.length 0)] [(0, ⟨(ps.flatMap ptc), 29, true, 2⟩), (4, ⟨(h.flatMap ptc), 29, true, 2⟩)] [(2, .slice (some ⟨1, 0, none⟩) h.length 0)] [(0, ⟨(ps.flatMap ptc), 29, true, 2⟩), (1, ⟨(h.flatMap ptc), 29, true, 2⟩)] ?_ ⟨rfl, (.slice _ _ _ _ _ rfl), trivial⟩ ⟨rfl, ⟨rfl, rfl, rfl, (.flats (qA _))⟩, rfl, ⟨rfl, rfl, rfl, (.flats (qA _))⟩, trivial⟩
 exact qF<|qB [.slice (some ⟨1, 0, none⟩) h.length 0] kK
theorem hull_ro (ps h : List (Int × Int)) (hh : Sp.vA (ps.map Sp.lmP) = h) (h1 : 1 ≤ ps.length) (hz : ps.length ≤ 8796093021952) : AC Try.prog 36 1 [.slice (some ⟨0, 0, none⟩) ps.length 0] [(0, ⟨(ps.flatMap ptc), 29, false, 2⟩)] (.slice (some ⟨1, 0, none⟩) h.length 0) [(1, ⟨(h.flatMap ptc), 29, true, 2⟩)] := hullof_ro ps _ _ _ h rfl rfl rfl hh h1 hz
theorem hull_own (ps h : List (Int × Int)) (hh : Sp.vA (ps.map Sp.lmP) = h) (h1 : 1 ≤ ps.length) (hz : ps.length ≤ 8796093021952) : AC Try.prog 36 1 [.slice (some ⟨0, 0, none⟩) ps.length 0] [(0, ⟨(ps.flatMap ptc), 29, true, 2⟩)] (.slice (some ⟨1, 0, none⟩) h.length 0) [(0, ⟨(ps.flatMap ptc), 29, true, 2⟩), (1, ⟨(h.flatMap ptc), 29, true, 2⟩)] := qED ps _ _ _ h rfl rfl rfl hh h1 hz
open Go Go.Proofs
theorem hullhas_ro (ps h : List (Int × Int)) (hh : Sp.vA (ps.map Sp.lmP) = h) (h1 : 1 ≤ ps.length) (hz : ps.length ≤ 8796093021952) (x y : Int) (hhl : h.length ≤ 17592186043904) (hfh : Sp.Few 1048576 h) :
    AC Try.prog 34 1 ([.slice (some ⟨0, 0, none⟩) ps.length 0, .agg #[.int .i64 x, .int .i64 y]]) [(0, ⟨(ps.flatMap ptc), 29, false, 2⟩)] (.bool (Sp.hasH h (Sp.lim 1048576 x) (Sp.lim 1048576 y))) [] := by
 have qx := Sp.jP (m := 1048576) dD x; have qy := Sp.jP (m := 1048576) dD y
 refine qK Try.func34 (fun w0 W pin => ?_)
 refine aw_e 3 2 1<|aw_p 7 (
  .a 1 2 <| .p (qC (j6 x y)) <| .e 1 2) ?_
 refine aw_p 15 (
  .a 1 2 <|
  .p (cB #[.tmp 9] #[24] [.slice (some ⟨0, 0, none⟩) ps.length 0] 1 [(0, ⟨(ps.flatMap ptc), 29, false, 2⟩)] [(2, ⟨(h.flatMap ptc), 29, true, 2⟩)] (.slice (some ⟨2, 0, none⟩) h.length 0) [0, 2] (hull_ro ps h hh h1 hz) (.cons (.slice _ _ _ _ _ dD) .nil) ⟨rfl, ⟨rfl, rfl, rfl, (.flats (qA _))⟩, trivial⟩ ⟨rfl, ⟨rfl, rfl, rfl, (.flats (qA _))⟩, trivial⟩ (.slice _ _ _ _ _ dD)) <|
  .e 1 3) ?_
 refine qD 30 31<|aw_e 61 2 3<|qM 0 123<|aw_e 247 2 3<|qY 494 495 (((h.length : Nat) : Int) == 0) (fun h1 => ?_) (fun h1 => ?_)
 ·have h1p : ((((h.length : Nat) : Int) = 0)) := pB h1
  exact aw_e 989 1 3<|qF<|qB [.bool false] (show (.bool false : Value) = (.bool (Sp.hasH h (Sp.lim 1048576 x) (Sp.lim 1048576 y))) from (congrArg Value.bool (show false = (Sp.hasH h (Sp.lim 1048576 x) (Sp.lim 1048576 y)) from by (first | exact (Sp.wK oO).symm | exact (Sp.x6 oO).symm | exact (Sp.x5 oO).symm | exact z35 | exact z36))))
 have h1p : ¬ ((((h.length : Nat) : Int) = 0)) := pB h1
 refine aw_e 991 2 3<|qY 1982 1983 (((h.length : Nat) : Int) == 1) (fun h2 => ?_) (fun h2 => ?_)
 ·have h2p : ((((h.length : Nat) : Int) = 1)) := pB h2
  refine aw_d 3965 (
   .a 1 3 <| .p (q7 (t := 24) (x := .tmp 17) (y := .const (.int .i64 0)) (k := 2) (off := 0) (n := h.length) (c := 0) (z := 2) (kd := .i64) (j := 0) kK kK kK kK kK oO oO) <|
   .p (lD 29 18 2 0 ⟨(h.flatMap ptc), 29, true, 2⟩ (.agg #[.int .i64 ((h.getD 0 (0, 0)).1), .int .i64 ((h.getD 0 (0, 0)).2)]) (qL (j := 0) kK kK oO oO)) <|
   .a 1 3 <| .p (qV ((((h.getD 0 (0, 0)).1) == (Sp.lim 1048576 x)) && ((((h.getD 0 (0, 0)).2) == (Sp.lim 1048576 y)) && true)) (rfl)) <| .e 1 3) ?_
  exact qF<|qB [.bool ((((h.getD 0 (0, 0)).1) == (Sp.lim 1048576 x)) && ((((h.getD 0 (0, 0)).2) == (Sp.lim 1048576 y)) && true))] (show (.bool ((((h.getD 0 (0, 0)).1) == (Sp.lim 1048576 x)) && ((((h.getD 0 (0, 0)).2) == (Sp.lim 1048576 y)) && true)) : Value) = (.bool (Sp.hasH h (Sp.lim 1048576 x) (Sp.lim 1048576 y))) from (congrArg Value.bool (show ((((h.getD 0 (0, 0)).1) == (Sp.lim 1048576 x)) && ((((h.getD 0 (0, 0)).2) == (Sp.lim 1048576 y)) && true)) = (Sp.hasH h (Sp.lim 1048576 x) (Sp.lim 1048576 y)) from by (first | exact (Sp.wK oO).symm | exact (Sp.x6 oO).symm | exact (Sp.x5 oO).symm | exact z35 | exact z36))))
 have h2p : ¬ ((((h.length : Nat) : Int) = 1)) := pB h2
 refine aw_e 3967 2 3<|qY 7934 7935 (((h.length : Nat) : Int) == 2) (fun h3 => ?_) (fun h3 => ?_)
 ·have h3p : ((((h.length : Nat) : Int) = 2)) := pB h3
  have f0 := hfh 0; have f1 := hfh 1
  refine aw_d 15869 (
   .a 1 3 <| .p (q7 (t := 24) (x := .tmp 24) (y := .const (.int .i64 0)) (k := 2) (off := 0) (n := h.length) (c := 0) (z := 2) (kd := .i64) (j := 0) kK kK kK kK kK oO oO) <|
   .p (lD 29 25 2 0 ⟨(h.flatMap ptc), 29, true, 2⟩ (.agg #[.int .i64 ((h.getD 0 (0, 0)).1), .int .i64 ((h.getD 0 (0, 0)).2)]) (qL (j := 0) kK kK oO oO)) <|
   .a 1 3 <| .p (q7 (t := 24) (x := .tmp 27) (y := .const (.int .i64 1)) (k := 2) (off := 0) (n := h.length) (c := 0) (z := 2) (kd := .i64) (j := 1) kK kK kK kK kK oO oO) <|
   .p (lD 29 28 2 2 ⟨(h.flatMap ptc), 29, true, 2⟩ (.agg #[.int .i64 ((h.getD 1 (0, 0)).1), .int .i64 ((h.getD 1 (0, 0)).2)]) (qL (j := 1) kK kK oO oO)) <|
   .a 1 3 <| .p (qC (fB ((h.getD 0 (0, 0)).1) ((h.getD 0 (0, 0)).2) ((h.getD 1 (0, 0)).1) ((h.getD 1 (0, 0)).2) (Sp.lim 1048576 x) (Sp.lim 1048576 y) oO oO oO oO oO oO oO oO oO oO oO oO)) <| .e 1 3) ?_
  exact qF<|qB [.bool (Sp.onb ((h.getD 0 (0, 0)).1) ((h.getD 0 (0, 0)).2) ((h.getD 1 (0, 0)).1) ((h.getD 1 (0, 0)).2) (Sp.lim 1048576 x) (Sp.lim 1048576 y))] (show (.bool (Sp.onb ((h.getD 0 (0, 0)).1) ((h.getD 0 (0, 0)).2) ((h.getD 1 (0, 0)).1) ((h.getD 1 (0, 0)).2) (Sp.lim 1048576 x) (Sp.lim 1048576 y)) : Value) = (.bool (Sp.hasH h (Sp.lim 1048576 x) (Sp.lim 1048576 y))) from (congrArg Value.bool (show (Sp.onb ((h.getD 0 (0, 0)).1) ((h.getD 0 (0, 0)).2) ((h.getD 1 (0, 0)).1) ((h.getD 1 (0, 0)).2) (Sp.lim 1048576 x) (Sp.lim 1048576 y)) = (Sp.hasH h (Sp.lim 1048576 x) (Sp.lim 1048576 y)) from by (first | exact (Sp.wK oO).symm | exact (Sp.x6 oO).symm | exact (Sp.x5 oO).symm | exact z35 | exact z36))))
 have h3p : ¬ ((((h.length : Nat) : Int) = 2)) := pB h3
 refine qH<|qD 62 63<|aw_e 125 3 3<|qM 1 251<|q6 503<|al_w _ _ (jS (fun i : Nat => (fun (i : Nat) => mkSt 1 [(3, .pointer (some ⟨1, 0, none⟩)), (4, .bool false), (5, .slice (some ⟨2, 0, none⟩) h.length 0), (33, .int .i64 ((h.length : Nat) : Int)), (34, .int .i64 ((i : Nat) : Int))] [(0, ⟨(ps.flatMap ptc), 29, false, 2⟩), (1, ⟨[.int .i64 (Sp.lim 1048576 x), .int .i64 (Sp.lim 1048576 y)], 29, true, 2⟩), (2, ⟨(h.flatMap ptc), 29, true, 2⟩)]) i) (fun i : Nat => (fun (i : Nat) => (i ≤ h.length) ∧ (Sp.hasL h (Sp.lim 1048576 x) (Sp.lim 1048576 y) i = Sp.hasL h (Sp.lim 1048576 x) (Sp.lim 1048576 y) 0)) i) (fun i : Nat => (fun (i : Nat) => h.length - i) i) (fun i hi1 ih1 => ?_) 0 (show (0 ≤ h.length) ∧ (Sp.hasL h (Sp.lim 1048576 x) (Sp.lim 1048576 y) 0 = Sp.hasL h (Sp.lim 1048576 x) (Sp.lim 1048576 y) 0) from ⟨by omega, by rfl⟩)) (hc := z15)
 obtain ⟨i, hv1⟩ : ∃ z, z = i := ⟨i, rfl⟩; subst hv1
 have hi1' : (i ≤ h.length) ∧ (Sp.hasL h (Sp.lim 1048576 x) (Sp.lim 1048576 y) i = Sp.hasL h (Sp.lim 1048576 x) (Sp.lim 1048576 y) 0) := hi1
 obtain ⟨hi, hs⟩ := hi1'
 show AL _ _ _ (mkSt _ _ _) _
 refine qE<|aw_e 1007 1 3<|qD 2014 2015<|qY 4028 4029 (decide (((i : Nat) : Int) < ((h.length : Nat) : Int))) (fun h4 => ?_) (fun h4 => ?_)
 ·have h4p : ((((i : Nat) : Int) < ((h.length : Nat) : Int))) := pB h4
  have hil : i < h.length := by omega
  obtain ⟨j, hj⟩ : ∃ j, (i + 1) % h.length = j := ⟨_, rfl⟩
  have hjl : j < h.length := hj ▸ Nat.mod_lt _ oO
  have fi := hfh i; have fj := hfh j
  refine qH<|qD 4030 4031<|qM 2 8061<|aw_e 16123 2 3<|aw_d 32247 (
   .a 2 3 <| .p (iX 24 37 38 2 0 h.length 2 ((i : Nat) : Int) oO oO) <|
   .p (lD 29 39 2 (0 + (((i : Nat) : Int)).toNat * 2) ⟨(h.flatMap ptc), 29, true, 2⟩ (.agg #[.int .i64 ((h.getD i (0, 0)).1), .int .i64 ((h.getD i (0, 0)).2)]) (qL (j := i) kK kK oO oO)) <|
   .a 2 3 <| .p (qJ (((i : Nat) : Int) + 1) (wrap_i64 oO oO) .i64) <| .a 2 3 <|
   .p (wE (n' := ((j : Nat) : Int)) (n4 (t := 3) (t2 := 3) (x := .tmp 43) (y := .tmp 45) (k := .i64) (a := (((i : Nat) : Int) + 1)) (b := ((h.length : Nat) : Int)) kK kK kK oO) ((show (Int.tmod (((i : Nat) : Int) + 1) ((h.length : Nat) : Int)) = ((j : Nat) : Int) from (by rw [← hj]; exact rfl)))) <|
   .p (iX 24 41 46 2 0 h.length 2 ((j : Nat) : Int) oO oO) <|
   .p (lD 29 47 2 (0 + (((j : Nat) : Int)).toNat * 2) ⟨(h.flatMap ptc), 29, true, 2⟩ (.agg #[.int .i64 ((h.getD j (0, 0)).1), .int .i64 ((h.getD j (0, 0)).2)]) (qL (j := j) kK kK oO oO)) <|
   .a 1 3 <| .p (qC (vY ((h.getD i (0, 0)).1) ((h.getD i (0, 0)).2) ((h.getD j (0, 0)).1) ((h.getD j (0, 0)).2) (Sp.lim 1048576 x) (Sp.lim 1048576 y) oO oO oO oO oO oO oO oO oO oO oO oO)) <|
   .e 1 3) ?_
  refine qY 64494 64495 (decide ((Sp.cmp (Sp.crs ((h.getD i (0, 0)).1) ((h.getD i (0, 0)).2) ((h.getD j (0, 0)).1) ((h.getD j (0, 0)).2) (Sp.lim 1048576 x) (Sp.lim 1048576 y)) 0) < 0)) (fun h5 => ?_) (fun h5 => ?_)
  ·have h5p : (((Sp.cmp (Sp.crs ((h.getD i (0, 0)).1) ((h.getD i (0, 0)).2) ((h.getD j (0, 0)).1) ((h.getD j (0, 0)).2) (Sp.lim 1048576 x) (Sp.lim 1048576 y)) 0) < 0)) := pB h5
   exact aw_e 128989 1 3<|qF<|qB [.bool false] (show (.bool false : Value) = (.bool (Sp.hasH h (Sp.lim 1048576 x) (Sp.lim 1048576 y))) from (congrArg Value.bool (show false = (Sp.hasH h (Sp.lim 1048576 x) (Sp.lim 1048576 y)) from by (first | exact (Sp.wK oO).symm | exact (Sp.x6 oO).symm | exact (Sp.x5 oO).symm | exact z35 | exact z36))))
  have h5p : ¬ (((Sp.cmp (Sp.crs ((h.getD i (0, 0)).1) ((h.getD i (0, 0)).2) ((h.getD j (0, 0)).1) ((h.getD j (0, 0)).2) (Sp.lim 1048576 x) (Sp.lim 1048576 y)) 0) < 0)) := pB h5
  refine qH<|qW (
   .p (qJ (((i : Nat) : Int) + 1) (wrap_i64 oO oO) .i64) <| .e 1 3) ?_
  exact al_w _ _ (ih1 (i + 1) (show ((i + 1) ≤ h.length) ∧ (Sp.hasL h (Sp.lim 1048576 x) (Sp.lim 1048576 y) (i + 1) = Sp.hasL h (Sp.lim 1048576 x) (Sp.lim 1048576 y) 0) from ⟨by omega, by (rw [← hs]; exact Sp.rW hil hj aA)⟩) (show h.length - (i + 1) < h.length - i from by omega)) (hc := z15)
 have h4p : ¬ ((((i : Nat) : Int) < ((h.length : Nat) : Int))) := pB h4
 have hge : ¬ i < h.length := by omega
 exact q5 1<|qG<|aw_e 127 1 3<|qF<|qB [.bool true] (show (.bool true : Value) = (.bool (Sp.hasH h (Sp.lim 1048576 x) (Sp.lim 1048576 y))) from (congrArg Value.bool (show true = (Sp.hasH h (Sp.lim 1048576 x) (Sp.lim 1048576 y)) from by (first | exact (Sp.wK oO).symm | exact (Sp.x6 oO).symm | exact (Sp.x5 oO).symm | exact z35 | exact z36))))
theorem eA (ps h : List (Int × Int)) (hh : Sp.vA (ps.map Sp.lmP) = h) (h1 : 1 ≤ ps.length) (hz : ps.length ≤ 8796093021952) (x y : Int) (hhl : h.length ≤ 17592186043904) (hfh : Sp.Few 1048576 h) :
    AC Try.prog 34 1 ([.slice (some ⟨0, 0, none⟩) ps.length 0, .agg #[.int .i64 x, .int .i64 y]]) [(0, ⟨(ps.flatMap ptc), 29, true, 2⟩)] (.bool (Sp.hasH h (Sp.lim 1048576 x) (Sp.lim 1048576 y))) [(0, ⟨(ps.flatMap ptc), 29, true, 2⟩)] := by
 have qx := Sp.jP (m := 1048576) dD x; have qy := Sp.jP (m := 1048576) dD y
 refine qK Try.func34 (fun w0 W pin => ?_)
 refine aw_e 3 2 1<|aw_p 7 (
  .a 1 2 <| .p (qC (j6 x y)) <| .e 1 2) ?_
 refine aw_p 15 (
  .a 1 2 <|
  .p (cB #[.tmp 9] #[24] [.slice (some ⟨0, 0, none⟩) ps.length 0] 1 [(0, ⟨(ps.flatMap ptc), 29, true, 2⟩)] [(0, ⟨(ps.flatMap ptc), 29, true, 2⟩), (2, ⟨(h.flatMap ptc), 29, true, 2⟩)] (.slice (some ⟨2, 0, none⟩) h.length 0) [0, 2] (hull_own ps h hh h1 hz) (.cons (.slice _ _ _ _ _ dD) .nil) ⟨rfl, ⟨rfl, rfl, rfl, (.flats (qA _))⟩, trivial⟩ ⟨rfl, ⟨rfl, rfl, rfl, (.flats (qA _))⟩, rfl, ⟨rfl, rfl, rfl, (.flats (qA _))⟩, trivial⟩ (.slice _ _ _ _ _ dD)) <|
  .e 1 3) ?_
 refine qD 30 31<|aw_e 61 2 3<|qM 0 123<|aw_e 247 2 3<|qY 494 495 (((h.length : Nat) : Int) == 0) (fun h1 => ?_) (fun h1 => ?_)
 ·have h1p : ((((h.length : Nat) : Int) = 0)) := pB h1
  exact aw_e 989 1 3<|qF<|qB [.bool false] (show (.bool false : Value) = (.bool (Sp.hasH h (Sp.lim 1048576 x) (Sp.lim 1048576 y))) from (congrArg Value.bool (show false = (Sp.hasH h (Sp.lim 1048576 x) (Sp.lim 1048576 y)) from by (first | exact (Sp.wK oO).symm | exact (Sp.x6 oO).symm | exact (Sp.x5 oO).symm | exact z35 | exact z36))))
 have h1p : ¬ ((((h.length : Nat) : Int) = 0)) := pB h1
 refine aw_e 991 2 3<|qY 1982 1983 (((h.length : Nat) : Int) == 1) (fun h2 => ?_) (fun h2 => ?_)
 ·have h2p : ((((h.length : Nat) : Int) = 1)) := pB h2
  refine aw_d 3965 (
   .a 1 3 <| .p (q7 (t := 24) (x := .tmp 17) (y := .const (.int .i64 0)) (k := 2) (off := 0) (n := h.length) (c := 0) (z := 2) (kd := .i64) (j := 0) kK kK kK kK kK oO oO) <|
   .p (lD 29 18 2 0 ⟨(h.flatMap ptc), 29, true, 2⟩ (.agg #[.int .i64 ((h.getD 0 (0, 0)).1), .int .i64 ((h.getD 0 (0, 0)).2)]) (qL (j := 0) kK kK oO oO)) <|
   .a 1 3 <| .p (qV ((((h.getD 0 (0, 0)).1) == (Sp.lim 1048576 x)) && ((((h.getD 0 (0, 0)).2) == (Sp.lim 1048576 y)) && true)) (rfl)) <| .e 1 3) ?_
  exact qF<|qB [.bool ((((h.getD 0 (0, 0)).1) == (Sp.lim 1048576 x)) && ((((h.getD 0 (0, 0)).2) == (Sp.lim 1048576 y)) && true))] (show (.bool ((((h.getD 0 (0, 0)).1) == (Sp.lim 1048576 x)) && ((((h.getD 0 (0, 0)).2) == (Sp.lim 1048576 y)) && true)) : Value) = (.bool (Sp.hasH h (Sp.lim 1048576 x) (Sp.lim 1048576 y))) from (congrArg Value.bool (show ((((h.getD 0 (0, 0)).1) == (Sp.lim 1048576 x)) && ((((h.getD 0 (0, 0)).2) == (Sp.lim 1048576 y)) && true)) = (Sp.hasH h (Sp.lim 1048576 x) (Sp.lim 1048576 y)) from by (first | exact (Sp.wK oO).symm | exact (Sp.x6 oO).symm | exact (Sp.x5 oO).symm | exact z35 | exact z36))))
 have h2p : ¬ ((((h.length : Nat) : Int) = 1)) := pB h2
 refine aw_e 3967 2 3<|qY 7934 7935 (((h.length : Nat) : Int) == 2) (fun h3 => ?_) (fun h3 => ?_)
 ·have h3p : ((((h.length : Nat) : Int) = 2)) := pB h3
  have f0 := hfh 0; have f1 := hfh 1
  refine aw_d 15869 (
   .a 1 3 <| .p (q7 (t := 24) (x := .tmp 24) (y := .const (.int .i64 0)) (k := 2) (off := 0) (n := h.length) (c := 0) (z := 2) (kd := .i64) (j := 0) kK kK kK kK kK oO oO) <|
   .p (lD 29 25 2 0 ⟨(h.flatMap ptc), 29, true, 2⟩ (.agg #[.int .i64 ((h.getD 0 (0, 0)).1), .int .i64 ((h.getD 0 (0, 0)).2)]) (qL (j := 0) kK kK oO oO)) <|
   .a 1 3 <| .p (q7 (t := 24) (x := .tmp 27) (y := .const (.int .i64 1)) (k := 2) (off := 0) (n := h.length) (c := 0) (z := 2) (kd := .i64) (j := 1) kK kK kK kK kK oO oO) <|
   .p (lD 29 28 2 2 ⟨(h.flatMap ptc), 29, true, 2⟩ (.agg #[.int .i64 ((h.getD 1 (0, 0)).1), .int .i64 ((h.getD 1 (0, 0)).2)]) (qL (j := 1) kK kK oO oO)) <|
   .a 1 3 <| .p (qC (fB ((h.getD 0 (0, 0)).1) ((h.getD 0 (0, 0)).2) ((h.getD 1 (0, 0)).1) ((h.getD 1 (0, 0)).2) (Sp.lim 1048576 x) (Sp.lim 1048576 y) oO oO oO oO oO oO oO oO oO oO oO oO)) <| .e 1 3) ?_
  exact qF<|qB [.bool (Sp.onb ((h.getD 0 (0, 0)).1) ((h.getD 0 (0, 0)).2) ((h.getD 1 (0, 0)).1) ((h.getD 1 (0, 0)).2) (Sp.lim 1048576 x) (Sp.lim 1048576 y))] (show (.bool (Sp.onb ((h.getD 0 (0, 0)).1) ((h.getD 0 (0, 0)).2) ((h.getD 1 (0, 0)).1) ((h.getD 1 (0, 0)).2) (Sp.lim 1048576 x) (Sp.lim 1048576 y)) : Value) = (.bool (Sp.hasH h (Sp.lim 1048576 x) (Sp.lim 1048576 y))) from (congrArg Value.bool (show (Sp.onb ((h.getD 0 (0, 0)).1) ((h.getD 0 (0, 0)).2) ((h.getD 1 (0, 0)).1) ((h.getD 1 (0, 0)).2) (Sp.lim 1048576 x) (Sp.lim 1048576 y)) = (Sp.hasH h (Sp.lim 1048576 x) (Sp.lim 1048576 y)) from by (first | exact (Sp.wK oO).symm | exact (Sp.x6 oO).symm | exact (Sp.x5 oO).symm | exact z35 | exact z36))))
 have h3p : ¬ ((((h.length : Nat) : Int) = 2)) := pB h3
 refine qH<|qD 62 63<|aw_e 125 3 3<|qM 1 251<|q6 503<|al_w _ _ (jS (fun i : Nat => (fun (i : Nat) => mkSt 1 [(3, .pointer (some ⟨1, 0, none⟩)), (4, .bool false), (5, .slice (some ⟨2, 0, none⟩) h.length 0), (33, .int .i64 ((h.length : Nat) : Int)), (34, .int .i64 ((i : Nat) : Int))] [(0, ⟨(ps.flatMap ptc), 29, true, 2⟩), (1, ⟨[.int .i64 (Sp.lim 1048576 x), .int .i64 (Sp.lim 1048576 y)], 29, true, 2⟩), (2, ⟨(h.flatMap ptc), 29, true, 2⟩)]) i) (fun i : Nat => (fun (i : Nat) => (i ≤ h.length) ∧ (Sp.hasL h (Sp.lim 1048576 x) (Sp.lim 1048576 y) i = Sp.hasL h (Sp.lim 1048576 x) (Sp.lim 1048576 y) 0)) i) (fun i : Nat => (fun (i : Nat) => h.length - i) i) (fun i hi1 ih1 => ?_) 0 (show (0 ≤ h.length) ∧ (Sp.hasL h (Sp.lim 1048576 x) (Sp.lim 1048576 y) 0 = Sp.hasL h (Sp.lim 1048576 x) (Sp.lim 1048576 y) 0) from ⟨by omega, by rfl⟩)) (hc := z15)
 obtain ⟨i, hv1⟩ : ∃ z, z = i := ⟨i, rfl⟩; subst hv1
 have hi1' : (i ≤ h.length) ∧ (Sp.hasL h (Sp.lim 1048576 x) (Sp.lim 1048576 y) i = Sp.hasL h (Sp.lim 1048576 x) (Sp.lim 1048576 y) 0) := hi1
 obtain ⟨hi, hs⟩ := hi1'
 show AL _ _ _ (mkSt _ _ _) _
 refine qE<|aw_e 1007 1 3<|qD 2014 2015<|qY 4028 4029 (decide (((i : Nat) : Int) < ((h.length : Nat) : Int))) (fun h4 => ?_) (fun h4 => ?_)
 ·have h4p : ((((i : Nat) : Int) < ((h.length : Nat) : Int))) := pB h4
  have hil : i < h.length := by omega
  obtain ⟨j, hj⟩ : ∃ j, (i + 1) % h.length = j := ⟨_, rfl⟩
  have hjl : j < h.length := hj ▸ Nat.mod_lt _ oO
  have fi := hfh i; have fj := hfh j
  refine qH<|qD 4030 4031<|qM 2 8061<|aw_e 16123 2 3<|aw_d 32247 (
   .a 2 3 <| .p (iX 24 37 38 2 0 h.length 2 ((i : Nat) : Int) oO oO) <|
   .p (lD 29 39 2 (0 + (((i : Nat) : Int)).toNat * 2) ⟨(h.flatMap ptc), 29, true, 2⟩ (.agg #[.int .i64 ((h.getD i (0, 0)).1), .int .i64 ((h.getD i (0, 0)).2)]) (qL (j := i) kK kK oO oO)) <|
   .a 2 3 <| .p (qJ (((i : Nat) : Int) + 1) (wrap_i64 oO oO) .i64) <| .a 2 3 <|
   .p (wE (n' := ((j : Nat) : Int)) (n4 (t := 3) (t2 := 3) (x := .tmp 43) (y := .tmp 45) (k := .i64) (a := (((i : Nat) : Int) + 1)) (b := ((h.length : Nat) : Int)) kK kK kK oO) ((show (Int.tmod (((i : Nat) : Int) + 1) ((h.length : Nat) : Int)) = ((j : Nat) : Int) from (by rw [← hj]; exact rfl)))) <|
   .p (iX 24 41 46 2 0 h.length 2 ((j : Nat) : Int) oO oO) <|
   .p (lD 29 47 2 (0 + (((j : Nat) : Int)).toNat * 2) ⟨(h.flatMap ptc), 29, true, 2⟩ (.agg #[.int .i64 ((h.getD j (0, 0)).1), .int .i64 ((h.getD j (0, 0)).2)]) (qL (j := j) kK kK oO oO)) <|
   .a 1 3 <| .p (qC (vY ((h.getD i (0, 0)).1) ((h.getD i (0, 0)).2) ((h.getD j (0, 0)).1) ((h.getD j (0, 0)).2) (Sp.lim 1048576 x) (Sp.lim 1048576 y) oO oO oO oO oO oO oO oO oO oO oO oO)) <|
   .e 1 3) ?_
  refine qY 64494 64495 (decide ((Sp.cmp (Sp.crs ((h.getD i (0, 0)).1) ((h.getD i (0, 0)).2) ((h.getD j (0, 0)).1) ((h.getD j (0, 0)).2) (Sp.lim 1048576 x) (Sp.lim 1048576 y)) 0) < 0)) (fun h5 => ?_) (fun h5 => ?_)
  ·have h5p : (((Sp.cmp (Sp.crs ((h.getD i (0, 0)).1) ((h.getD i (0, 0)).2) ((h.getD j (0, 0)).1) ((h.getD j (0, 0)).2) (Sp.lim 1048576 x) (Sp.lim 1048576 y)) 0) < 0)) := pB h5
   exact aw_e 128989 1 3<|qF<|qB [.bool false] (show (.bool false : Value) = (.bool (Sp.hasH h (Sp.lim 1048576 x) (Sp.lim 1048576 y))) from (congrArg Value.bool (show false = (Sp.hasH h (Sp.lim 1048576 x) (Sp.lim 1048576 y)) from by (first | exact (Sp.wK oO).symm | exact (Sp.x6 oO).symm | exact (Sp.x5 oO).symm | exact z35 | exact z36))))
  have h5p : ¬ (((Sp.cmp (Sp.crs ((h.getD i (0, 0)).1) ((h.getD i (0, 0)).2) ((h.getD j (0, 0)).1) ((h.getD j (0, 0)).2) (Sp.lim 1048576 x) (Sp.lim 1048576 y)) 0) < 0)) := pB h5
  refine qH<|qW (
   .p (qJ (((i : Nat) : Int) + 1) (wrap_i64 oO oO) .i64) <| .e 1 3) ?_
  exact al_w _ _ (ih1 (i + 1) (show ((i + 1) ≤ h.length) ∧ (Sp.hasL h (Sp.lim 1048576 x) (Sp.lim 1048576 y) (i + 1) = Sp.hasL h (Sp.lim 1048576 x) (Sp.lim 1048576 y) 0) from ⟨by omega, by (rw [← hs]; exact Sp.rW hil hj aA)⟩) (show h.length - (i + 1) < h.length - i from by omega)) (hc := z15)
 have h4p : ¬ ((((i : Nat) : Int) < ((h.length : Nat) : Int))) := pB h4
 have hge : ¬ i < h.length := by omega
 exact q5 1<|qG<|aw_e 127 1 3<|qF<|qB [.bool true] (show (.bool true : Value) = (.bool (Sp.hasH h (Sp.lim 1048576 x) (Sp.lim 1048576 y))) from (congrArg Value.bool (show true = (Sp.hasH h (Sp.lim 1048576 x) (Sp.lim 1048576 y)) from by (first | exact (Sp.wK oO).symm | exact (Sp.x6 oO).symm | exact (Sp.x5 oO).symm | exact z35 | exact z36))))
open Go Go.Proofs
theorem lclo_ok (ps h : List (Int × Int)) (hl : 2 ≤ ps.length ∧ ps.length ≤ 8) (hf : Sp.Few 41 ps) (hh : Sp.vA ps = h) (x y : Int) (xl : -1048576 ≤ x) (xu : x ≤ 1048576) (yl : -1048576 ≤ y) (yu : y ≤ 1048576) (hm : Sp.hasH h x y = true) :
    AC Try.prog 49 2 ([.agg #[.int .i64 x, .int .i64 y], .pointer (some ⟨0, 0, none⟩)]) [(0, ⟨[.slice (some ⟨1, 0, none⟩) ps.length 0], 24, true, 1⟩), (1, ⟨(ps.flatMap ptc), 29, true, 2⟩)] (.bool false) [(0, ⟨[.slice (some ⟨1, 0, none⟩) ps.length 0], 24, true, 1⟩), (1, ⟨(ps.flatMap ptc), 29, true, 2⟩)] := by
 have hsub : ∀ q ∈ h, q ∈ ps := (fun q hq => Sp.hull_sub (hh ▸ hq)); have hhl := hh ▸ Sp.qB4 (ps := ps) oO; have hf4 : Sp.Few 41 h := Sp.xH dD hf hsub; have hfh : Sp.Few 1048576 h := (fun i => (by have := hf4 i; omega)); have hlm : ps.map Sp.lmP = ps := Sp.lim_few dD hf
 refine qK Try.func49 (fun w0 W pin => ?_)
 refine aw_e 3 2 2<|aw_p 7 (
  .a 2 3 <|
  .p (fE (x := .func 34) (ars := #[.tmp 4, .tmp 5]) (ats := #[24, 29]) (g := 34) (vs := [.slice (some ⟨1, 0, none⟩) ps.length 0, .agg #[.int .i64 x, .int .i64 y]]) (m := 1) (r := 0) (firsts := #[]) (caps := #[]) (args0 := [.slice (some ⟨0, 0, none⟩) ps.length 0, .agg #[.int .i64 x, .int .i64 y]]) (pre0 := [(0, ⟨(ps.flatMap ptc), 29, true, 2⟩)]) (post0 := [(0, ⟨(ps.flatMap ptc), 29, true, 2⟩)]) (pre := [(1, ⟨(ps.flatMap ptc), 29, true, 2⟩)]) (post := [(1, ⟨(ps.flatMap ptc), 29, true, 2⟩)]) (v0 := .bool (Sp.hasH h x y)) (v := .bool (Sp.hasH h x y)) [1] kK kK kK kK ((by have q := eA ps h (by rw [hlm]; exact hh) oO oO x y oO hfh; rw [Sp.jR (n := x) oO oO, Sp.jR (n := y) oO oO] at q; exact q)) (.cons (.slice _ _ _ _ _ dD) (.cons (.flatB kK) .nil)) ⟨rfl, ⟨rfl, rfl, rfl, (.flats (qA _))⟩, trivial⟩ kK kK kK ⟨rfl, ⟨rfl, rfl, rfl, (.flats (qA _))⟩, trivial⟩ (.flatB kK)) <|
  .p (qN false ((show (!(Sp.hasH h x y)) = false from (by rw [hm]; rfl)))) <| .e 1 3) ?_
 exact qF<|qB [.bool false] kK
theorem ixl_ok (ps h ys : List (Int × Int)) (hl : 2 ≤ ps.length ∧ ps.length ≤ 8) (hf : Sp.Few 41 ps) (hh : Sp.vA ps = h) (hfy : Sp.Few 41 ys) (hy : ys.length ≤ 4096) (hm : ∀ i, i < ys.length → Sp.hasH h (ys.getD i (0, 0)).1 (ys.getD i (0, 0)).2 = true) :
    AC Try.prog 58 3 ([.slice (some ⟨0, 0, none⟩) ys.length 0, .func (.func 49) #[] #[.pointer (some ⟨1, 0, none⟩)]]) [(0, ⟨(ys.flatMap ptc), 29, true, 2⟩), (1, ⟨[.slice (some ⟨2, 0, none⟩) ps.length 0], 24, true, 1⟩), (2, ⟨(ps.flatMap ptc), 29, true, 2⟩)] (.int .i64 (-1)) [(0, ⟨(ys.flatMap ptc), 29, true, 2⟩), (1, ⟨[.slice (some ⟨2, 0, none⟩) ps.length 0], 24, true, 1⟩), (2, ⟨(ps.flatMap ptc), 29, true, 2⟩)] := by
 refine qK Try.func58 (fun w0 W pin => ?_)
 refine aw_e 3 1 3<|qD 6 7<|aw_e 13 3 3<|qM 0 27<|q6 55<|al_w _ _ (jS (fun i : Nat => (fun (i : Nat) => mkSt 3 [(0, .slice (some ⟨0, 0, none⟩) ys.length 0), (1, .func (.func 49) #[] #[.pointer (some ⟨1, 0, none⟩)]), (7, .int .i64 ((ys.length : Nat) : Int)), (8, .int .i64 ((i : Nat) : Int))] [(0, ⟨(ys.flatMap ptc), 29, true, 2⟩), (1, ⟨[.slice (some ⟨2, 0, none⟩) ps.length 0], 24, true, 1⟩), (2, ⟨(ps.flatMap ptc), 29, true, 2⟩)]) i) (fun i : Nat => (fun (i : Nat) => (i ≤ ys.length)) i) (fun i : Nat => (fun (i : Nat) => ys.length - i) i) (fun i hi1 ih1 => ?_) 0 (show (0 ≤ ys.length) from by omega)) (hc := z15)
 obtain ⟨i, hv1⟩ : ∃ z, z = i := ⟨i, rfl⟩; subst hv1
 have hi1' : (i ≤ ys.length) := hi1
 have hi : i ≤ ys.length := hi1'
 show AL _ _ _ (mkSt _ _ _) _
 refine qE<|aw_e 111 1 3<|qD 222 223<|qY 444 445 (decide (((i : Nat) : Int) < ((ys.length : Nat) : Int))) (fun h1 => ?_) (fun h1 => ?_)
 ·have h1p : ((((i : Nat) : Int) < ((ys.length : Nat) : Int))) := pB h1
  have hil : i < ys.length := oO; have fi := hfy i
  refine qH<|qD 446 447<|qM 1 893<|aw_e 1787 2 3<|aw_p 3575 (
   .a 3 3 <| .p (iX 24 12 13 0 0 ys.length 2 ((i : Nat) : Int) oO oO) <|
   .p (lD 29 14 0 (0 + (((i : Nat) : Int)).toNat * 2) ⟨(ys.flatMap ptc), 29, true, 2⟩ (.agg #[.int .i64 ((ys.getD i (0, 0)).1), .int .i64 ((ys.getD i (0, 0)).2)]) (qL (j := i) kK kK oO oO)) <|
   .p (fE (x := .tmp 11) (ars := #[.tmp 15]) (ats := #[29]) (g := 49) (vs := [.agg #[.int .i64 ((ys.getD i (0, 0)).1), .int .i64 ((ys.getD i (0, 0)).2)]]) (m := 2) (r := 0) (firsts := #[]) (caps := #[.pointer (some ⟨1, 0, none⟩)]) (args0 := [.agg #[.int .i64 ((ys.getD i (0, 0)).1), .int .i64 ((ys.getD i (0, 0)).2)], .pointer (some ⟨0, 0, none⟩)]) (pre0 := [(0, ⟨[.slice (some ⟨1, 0, none⟩) ps.length 0], 24, true, 1⟩), (1, ⟨(ps.flatMap ptc), 29, true, 2⟩)]) (post0 := [(0, ⟨[.slice (some ⟨1, 0, none⟩) ps.length 0], 24, true, 1⟩), (1, ⟨(ps.flatMap ptc), 29, true, 2⟩)]) (pre := [(1, ⟨[.slice (some ⟨2, 0, none⟩) ps.length 0], 24, true, 1⟩), (2, ⟨(ps.flatMap ptc), 29, true, 2⟩)]) (post := [(1, ⟨[.slice (some ⟨2, 0, none⟩) ps.length 0], 24, true, 1⟩), (2, ⟨(ps.flatMap ptc), 29, true, 2⟩)]) (v0 := .bool false) (v := .bool false) [1, 2] kK kK kK kK (lclo_ok ps h hl hf hh _ _ oO oO oO oO (hm i hil)) (.cons (.flatB kK) (.cons (.ptr _ _ dD) .nil)) ⟨rfl, ⟨rfl, rfl, rfl, (.cons (.slice _ _ _ _ _ dD) .nil)⟩, rfl, ⟨rfl, rfl, rfl, (.flats (qA _))⟩, trivial⟩ kK kK kK ⟨rfl, ⟨rfl, rfl, rfl, (.cons (.slice _ _ _ _ _ dD) .nil)⟩, rfl, ⟨rfl, rfl, rfl, (.flats (qA _))⟩, trivial⟩ (.flatB kK)) <| .nil _ _) ?_
  refine qP 7151<|qH<|qW (
   .p (qJ (((i : Nat) : Int) + 1) (wrap_i64 oO oO) .i64) <| .e 1 3) ?_
  exact al_w _ _ (ih1 (i + 1) (show ((i + 1) ≤ ys.length) from by omega) (show ys.length - (i + 1) < ys.length - i from by omega)) (hc := z15)
 have h1p : ¬ ((((i : Nat) : Int) < ((ys.length : Nat) : Int))) := pB h1
 exact q5 0<|qG<|aw_e 15 1 3<|qF<|qB [.int .i64 (-1)] kK
theorem ctl_ok (ps h ys : List (Int × Int)) (hl : 2 ≤ ps.length ∧ ps.length ≤ 8) (hf : Sp.Few 41 ps) (hh : Sp.vA ps = h) (hfy : Sp.Few 41 ys) (hy : ys.length ≤ 4096) (hm : ∀ i, i < ys.length → Sp.hasH h (ys.getD i (0, 0)).1 (ys.getD i (0, 0)).2 = true) :
    AC Try.prog 19 3 ([.slice (some ⟨0, 0, none⟩) ys.length 0, .func (.func 49) #[] #[.pointer (some ⟨1, 0, none⟩)]]) [(0, ⟨(ys.flatMap ptc), 29, true, 2⟩), (1, ⟨[.slice (some ⟨2, 0, none⟩) ps.length 0], 24, true, 1⟩), (2, ⟨(ps.flatMap ptc), 29, true, 2⟩)] (.bool false) [(0, ⟨(ys.flatMap ptc), 29, true, 2⟩), (1, ⟨[.slice (some ⟨2, 0, none⟩) ps.length 0], 24, true, 1⟩), (2, ⟨(ps.flatMap ptc), 29, true, 2⟩)] := by
 refine qK Try.func19 (fun w0 W pin => ?_)
 refine aw_e 3 1 3<|aw_p 7 (
  .a 2 3 <|
  .p (cB #[.tmp 5, .tmp 6] #[24, 34] [.slice (some ⟨0, 0, none⟩) ys.length 0, .func (.func 49) #[] #[.pointer (some ⟨1, 0, none⟩)]] 0 [(0, ⟨(ys.flatMap ptc), 29, true, 2⟩), (1, ⟨[.slice (some ⟨2, 0, none⟩) ps.length 0], 24, true, 1⟩), (2, ⟨(ps.flatMap ptc), 29, true, 2⟩)] [(0, ⟨(ys.flatMap ptc), 29, true, 2⟩), (1, ⟨[.slice (some ⟨2, 0, none⟩) ps.length 0], 24, true, 1⟩), (2, ⟨(ps.flatMap ptc), 29, true, 2⟩)] (.int .i64 (-1)) [0, 1, 2] (ixl_ok ps h ys hl hf hh hfy hy hm) (.cons (.slice _ _ _ _ _ dD) (.cons (.funcL (.flats kK) (.cons (.ptr _ _ dD) .nil)) .nil)) ⟨rfl, ⟨rfl, rfl, rfl, (.flats (qA _))⟩, rfl, ⟨rfl, rfl, rfl, (.cons (.slice _ _ _ _ _ dD) .nil)⟩, rfl, ⟨rfl, rfl, rfl, (.flats (qA _))⟩, trivial⟩ ⟨rfl, ⟨rfl, rfl, rfl, (.flats (qA _))⟩, rfl, ⟨rfl, rfl, rfl, (.cons (.slice _ _ _ _ _ dD) .nil)⟩, rfl, ⟨rfl, rfl, rfl, (.flats (qA _))⟩, trivial⟩ (.flatB kK)) <|
  .e 2 3) ?_
 exact qF<|qB [.bool false] kK
theorem aw_share {C : Ctx} {P : Program} {c : Code} {Q : Exit → St → Prop} {S : St} (c2 : Code) (S2 : List Row → St) (I : List Row → Prop) (tail : ∀ X, I X → AW C P c2 (S2 X) Q) (main : (∀ X, I X → AW C P c2 (S2 X) Q) → AW C P c S Q) : AW C P c S Q := main tail
theorem near_go {y : List (Int × Int)} {i k : Nat} {px pz t : Int} {b : Bool} (hb : b = true ∨ i ≤ k + 1) (hf : b = false) (hw : Sp.wthn px pz (y.getD k (0, 0)).1 (y.getD k (0, 0)).2 (y.getD (k + 1) (0, 0)).1 (y.getD (k + 1) (0, 0)).2 t = true) :
    Sp.wthn px pz (y.getD (i - 1) (0, 0)).1 (y.getD (i - 1) (0, 0)).2 (y.getD i (0, 0)).1 (y.getD i (0, 0)).2 t = true ∨ i + 1 ≤ k + 1 := by
  rcases hb with hb | hb
  · rw [hf] at hb; cases hb
  · rcases Nat.lt_or_ge i (k + 1) with c | c
    · exact .inr c
    · have e : i = k + 1 := Nat.le_antisymm hb c
      subst e
      exact .inl hw
end Go.Proofs.Ytadifmimefmcnaa.Am
namespace Go.Proofs.Ytadifmimefmcnaa.Am.Sp
open Go
def lnR (xs : List Int) (p b : Nat) : List (Int × Int) := lnL ((xs.drop p).take (min (xs.length - p) b)) (min (xs.length - p) b % 7 + 2)
theorem lns_nil : lnsE [] = 0 := by
  unfold lnsE fstE; rfl
theorem lnR_len {xs : List Int} {p b : Nat} : (lnR xs p b).length = min (xs.length - p) b % 7 + 2 := by unfold lnR; rw [wR]
theorem nok_few {x : List (Int × Int)} (h : Few 1048576 x) : x.any nok = false := by
  rw [List.any_eq_false]
  intro q hq
  have := wS h hq
  unfold nok
  rw [(okb_iff q.1 q.2).2 this]; simp
/-- thinned lines: what the laws ask -/
theorem keep_all {tol : Int} {X Y : List (List (Int × Int))} (h : lnsE X = 0) (e : Y = gV tol X X.length) : lnsE Y = 0 ∧ Y.length = X.length ∧ (∀ j, Few 1048576 (Y.getD j [])) ∧ (∀ j, j < X.length → 2 ≤ (X.getD j []).length ∧ (X.getD j []).length ≤ 200 ∧ 2 ≤ (Y.getD j []).length ∧ (Y.getD j []).length ≤ 200 ∧ ThinL tol (X.getD j []) (Y.getD j [])) := by
  have hR := KR.of h (Nat.le_refl X.length) e
  obtain ⟨h1, ho, _, _⟩ := p7 h
  refine ⟨lns_of (by rw [hR.len]; exact h1) (fun j hj => ?_) hR.lines, hR.len, hR.few, fun j hj => ?_⟩
  · obtain ⟨s1, s2⟩ := hR.sizes j hj
    unfold rowE
    rw [if_neg (by omega), if_neg (by omega), if_neg]
    have := nok_few (hR.few j)
    rw [this]; simp
  · have a := y7 (ho j hj)
    have b := hR.sizes j (by rw [hR.len]; exact hj)
    exact ⟨a.1, a.2.1, b.1, b.2, hR.thin j hj⟩
theorem ThinL.nl {tol : Int} {x y : List (Int × Int)} (h : ThinL tol x y) (ht : 0 ≤ tol) {w : Nat} (hw : w < x.length) : ∃ k, k + 1 < y.length ∧ wthn (x.getD w (0, 0)).1 (x.getD w (0, 0)).2 (y.getD k (0, 0)).1 (y.getD k (0, 0)).2 (y.getD (k + 1) (0, 0)).1 (y.getD (k + 1) (0, 0)).2 tol = true := by
  obtain ⟨k, h1, h2, h3⟩ := h.near w hw
  obtain ⟨k, rfl⟩ : ∃ q, k = q + 1 := ⟨k - 1, by omega⟩
  refine ⟨k, h2, ?_⟩
  rw [show mx tol 0 = tol from by unfold mx; split <;> omega] at h3
  exact h3
end Go.Proofs.Ytadifmimefmcnaa.Am.Sp
