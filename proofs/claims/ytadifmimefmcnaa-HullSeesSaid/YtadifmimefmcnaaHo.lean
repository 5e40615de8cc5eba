import Derived.Test.YtadifmimefmcnaaProg
import Derived.Test.YtadifmimefmcnaaAm16
import Derived.Test.YtadifmimefmcnaaHs
import Derived.Test.YtadifmimefmcnaaHc
import Derived.Test.YtadifmimefmcnaaHd
import Derived.Test.YtadifmimefmcnaaHr
import Derived.Test.YtadifmimefmcnaaHu8
namespace Go.Proofs.Ytadifmimefmcnaa.Am
open Go Go.Proofs
set_option maxRecDepth 100000
set_option maxHeartbeats 4000000
set_option linter.unusedVariables false
set_option linter.unusedSimpArgs false
theorem hullof_ro (ps qs ss ds h : List (Int × Int)) (hq : ps.map Sp.lmP = qs) (hss : srtP qs = ss) (hds : Sp.ddp ss = ds) (hh : Sp.hullF qs = h) (h1 : 1 ≤ ps.length) (hz : ps.length ≤ 8796093021952) :
    AC Try.prog 36 1 ([.slice (some ⟨0, 0, none⟩) ps.length 0]) [(0, ⟨(ps.flatMap ptc), 29, false, 2⟩)] (.slice (some ⟨1, 0, none⟩) h.length 0) [(1, ⟨(h.flatMap ptc), 29, true, 2⟩)] := by
  have hql : qs.length = ps.length := (by rw [← hq, List.length_map]); have hf : Sp.Few 1048576 qs := (hq ▸ Sp.few_lim ps); have hsl : ss.length = qs.length := (by rw [← hss, srtP_len]); have hsm : ∀ p ∈ ss, p ∈ qs := (fun p hp => (srtP_perm qs).mem_iff.1 (hss ▸ hp)); have hdm : ∀ p ∈ ds, p ∈ qs := (fun p hp => hsm p (Sp.ddp_mem.1 (hds ▸ hp))); have hdl : ds.length ≤ ss.length := (hds ▸ Sp.ddp_length ss); have hdp : 1 ≤ ds.length := (hds ▸ Sp.ddp_pos (by omega)); have hfd : Sp.Few 1048576 ds := Sp.few_sub (by decide) hf hdm; have hfr : Sp.Few 1048576 ds.reverse := Sp.few_sub (by decide) hfd (fun p hp => List.mem_reverse.1 hp); have hfc : Sp.Few 1048576 (Sp.chO ds) := Sp.few_sub (by decide) hfd (fun p hp => Sp.chO_mem hp); have hcl := Sp.chO_length ds; have hrl : ds.reverse.length = ds.length := List.length_reverse; have hdr : ds.Pairwise Sp.lxP := (by rw [← hds, ← hss]; exact Sp.srd_rise qs); have hzc : ∀ i, i ≤ ds.reverse.length → (Sp.chO ds).length + (Sp.stk ds.reverse i).length ≤ 8796093022000 := (fun i hi => (by have k := Sp.both_len hdr (by omega) (i := i) (by omega); omega))
  refine ac_in Try.func36 (fun w0 W pin => ?_)
  refine aw_p 3 (
    .a 1 2 <| .nil _ _) ?_
  refine aw_p 7 (
    .a 2 2 <| .p (does_mk (kl := .i64) (kc := .i64) (n' := 0) (c' := ((ps.length : Nat) : Int)) 2 29 2 16 0 ps.length (.agg #[.int .i64 0, .int .i64 0]) [] (by kernel_rfl) (by kernel_rfl) (by kernel_rfl) (by kernel_rfl) (by decide) rfl (by omega) (by omega) (by omega)) <| .a 1 3 <| .nil _ _) ?_
  refine aw_sq 14 15 ?_
  refine aw_p 29 (
    .a 3 3 <| .nil _ _) ?_
  refine aw_bl 0 59 ?_
  refine aw_lp 119 ?_
  refine al_w [(2, .slice none 0 0), (3, .slice (some ⟨2, 0, none⟩) 0 0), (10, .slice (some ⟨0, 0, none⟩) ps.length 0), (11, .int .i64 ((ps.length : Nat) : Int)), (12, .int .i64 ((0 : Nat) : Int))] [(0, ⟨(ps.flatMap ptc), 29, false, 2⟩), (2, ⟨(((ps.take 0).map Sp.lmP).flatMap ptc), 29, true, 2⟩)] ?_ (hc := (by simp [closedB, valsB, valB, List.all_eq_true, List.mem_flatMap, List.mem_range, List.mem_map, i64v, ptc, flat1]; try (intros; simp [valsB, valB, flat1]); try decide))
  refine al_ind (fun i : Nat => (fun (i : Nat) => mkSt 1 [(2, .slice none 0 0), (3, .slice (some ⟨2, 0, none⟩) i 0), (10, .slice (some ⟨0, 0, none⟩) ps.length 0), (11, .int .i64 ((ps.length : Nat) : Int)), (12, .int .i64 ((i : Nat) : Int))] [(0, ⟨(ps.flatMap ptc), 29, false, 2⟩), (2, ⟨(((ps.take i).map Sp.lmP).flatMap ptc), 29, true, 2⟩)]) i) (fun i : Nat => (fun (i : Nat) => (i ≤ ps.length)) i) (fun i : Nat => (fun (i : Nat) => ps.length - i) i) (fun i hi1 ih1 => ?_) 0 (show (0 ≤ ps.length) from by omega)
  obtain ⟨i, hv1⟩ : ∃ z, z = i := ⟨i, rfl⟩; subst hv1
  have hi1' : (i ≤ ps.length) := hi1
  have hi : i ≤ ps.length := hi1'
  show AL _ _ _ (mkSt 1 [(2, .slice none 0 0), (3, .slice (some ⟨2, 0, none⟩) i 0), (10, .slice (some ⟨0, 0, none⟩) ps.length 0), (11, .int .i64 ((ps.length : Nat) : Int)), (12, .int .i64 ((i : Nat) : Int))] [(0, ⟨(ps.flatMap ptc), 29, false, 2⟩), (2, ⟨(((ps.take i).map Sp.lmP).flatMap ptc), 29, true, 2⟩)]) _
  refine al_round ?_
  refine aw_p 239 (
    .a 1 3 <| .nil _ _) ?_
  refine aw_sq 478 479 ?_
  refine aw_cd 956 957 (decide (((i : Nat) : Int) < ((ps.length : Nat) : Int))) (fun h1 => ?_) (fun h1 => ?_)
  · have h1p : ((((i : Nat) : Int) < ((ps.length : Nat) : Int))) := by first | (simpa using h1) | (have h1q := h1; simp at h1q; omega) | (have h1q := bx1 h1; simp at h1q; omega)
    have hil : i < ps.length := by omega
    refine aw_sk ?_
    refine then_normal ?_
    refine aw_sq 958 959 ?_
    refine aw_bl 1 1917 ?_
    refine aw_p 3835 (
      .p (does_indexSlice (t := 24) (x := .tmp 10) (y := .tmp 12) (k := 0) (off := 0) (n := ps.length) (c := 0) (z := 2) (kd := .i64) (j := ((i : Nat) : Int)) (by kernel_rfl) (by kernel_rfl) (by kernel_rfl) (by kernel_rfl) (by kernel_rfl) (by omega) (by omega)) <|
      .p (does_load (t := 29) (x := .tmp 14) (k := 0) (off := (0 + (((i : Nat) : Int)).toNat * 2)) (b := ⟨(ps.flatMap ptc), 29, false, 2⟩) (v := .agg #[.int .i64 ((ps.getD i (0, 0)).1), .int .i64 ((ps.getD i (0, 0)).2)]) (by kernel_rfl) (by kernel_rfl) (by kernel_rfl) (ldV_pair (j := i) (by kernel_rfl) (by kernel_rfl) (by omega) (by omega))) <|
      .a 2 3 <| .nil _ _) ?_
    refine aw_p1 (
      .a 2 4 <| .p (does_c (clamp_ok ((ps.getD i (0, 0)).1) ((ps.getD i (0, 0)).2))) <| .a 1 4 <|
      .p (does_apy 5 29 2 16 2 i 4 1 ⟨(((ps.take i).map Sp.lmP).flatMap ptc), 29, true, 2⟩ ⟨[.int .i64 (Sp.lim 1048576 ((ps.getD i (0, 0)).1)), .int .i64 (Sp.lim 1048576 ((ps.getD i (0, 0)).2))], 29, true, 2⟩ (((ps.take (i + 1)).map Sp.lmP).flatMap ptc) (by kernel_rfl) (by kernel_rfl) (by kernel_rfl) (by kernel_rfl) (by kernel_rfl) (by show ((((ps.take i).map Sp.lmP).flatMap ptc)).length = _; rw [pairs_length]; simp; omega) (by omega) (by omega) (Sp.snoc_take hil rfl)) <|
      .a 1 6 <| .nil _ _) ?_
    refine block_normal ?_
    refine then_normal ?_
    refine aw_p1 (
      .p (does_i (((i : Nat) : Int) + 1) (wrap_i64 (by omega) (by omega)) .i64) <| .a 1 6 <| .nil _ _) ?_
    refine then_normal ?_
    refine al_r [(2, 5)] [(2, .slice none 0 0), (3, .slice (some ⟨5, 0, none⟩) (i + 1) 0), (10, .slice (some ⟨0, 0, none⟩) ps.length 0), (11, .int .i64 ((ps.length : Nat) : Int)), (12, .int .i64 (((i + 1) : Nat) : Int))] [(0, ⟨(ps.flatMap ptc), 29, false, 2⟩), (5, ⟨(((ps.take (i + 1)).map Sp.lmP).flatMap ptc), 29, true, 2⟩)] [(2, .slice none 0 0), (3, .slice (some ⟨2, 0, none⟩) (i + 1) 0), (10, .slice (some ⟨0, 0, none⟩) ps.length 0), (11, .int .i64 ((ps.length : Nat) : Int)), (12, .int .i64 (((i + 1) : Nat) : Int))] [(0, ⟨(ps.flatMap ptc), 29, false, 2⟩), (2, ⟨(((ps.take (i + 1)).map Sp.lmP).flatMap ptc), 29, true, 2⟩)] ?_ ⟨rfl, (.flatB (by kernel_rfl)), rfl, (.slice _ _ _ _ _ rfl), rfl, (.slice _ _ _ _ _ rfl), rfl, (.flatB (by kernel_rfl)), rfl, (.flatB (by kernel_rfl)), trivial⟩ ⟨rfl, ⟨rfl, rfl, rfl, (.flats (flats_pair _))⟩, rfl, ⟨rfl, rfl, rfl, (.flats (flats_pair _))⟩, trivial⟩
    exact ih1 (i + 1) (show ((i + 1) ≤ ps.length) from by omega) (show ps.length - (i + 1) < ps.length - i from by omega)
  · have h1p : ¬ ((((i : Nat) : Int) < ((ps.length : Nat) : Int))) := by first | (simpa using h1) | (have h1q := h1; simp at h1q; omega) | (have h1q := bx2 h1; simp at h1q; omega)
    have hin : i = ps.length := by omega
    refine aw_ex 0 ?_
    refine then_exit ?_
    refine then_exit ?_
    refine block_exit ?_
    refine then_normal ?_
    refine aw_w [(2, .slice none 0 0), (3, .slice (some ⟨2, 0, none⟩) qs.length 0)] [(0, ⟨(ps.flatMap ptc), 29, false, 2⟩), (2, ⟨(qs.flatMap ptc), 29, true, 2⟩)] ?_ (by (try (first | rw [show qs.length = i from (by omega)] | rw [show qs = (ps.take i).map Sp.lmP from (by rw [hin, List.take_length, hq])])); kernel_rfl) (by (try (first | rw [show qs.length = i from (by omega)] | rw [show qs = (ps.take i).map Sp.lmP from (by rw [hin, List.take_length, hq])])); kernel_rfl) (hc := (by simp [closedB, valsB, valB, List.all_eq_true, List.mem_flatMap, List.mem_range, List.mem_map, i64v, ptc, flat1]; try (intros; simp [valsB, valB, flat1]); try decide))
    refine aw_p 31 (
      .a 1 3 <|
      .p (does_callB (x := .func 81) (ars := #[.tmp 22, .func 82]) (ats := #[24, 52]) (g := 81) (vs := [.slice (some ⟨2, 0, none⟩) qs.length 0, .func (.func 82) #[] #[]]) (m := 1) (r := 0) (firsts := #[]) (caps := #[]) (args0 := [.slice (some ⟨0, 0, none⟩) qs.length 0, .func (.func 82) #[] #[]]) (pre0 := [(0, ⟨(qs.flatMap ptc), 29, true, 2⟩)]) (post0 := [(0, ⟨((srtP qs).flatMap ptc), 29, true, 2⟩)]) (pre := [(2, ⟨(qs.flatMap ptc), 29, true, 2⟩)]) (post := [(2, ⟨((srtP qs).flatMap ptc), 29, true, 2⟩)]) (v0 := .tuple #[]) (v := .tuple #[]) [2] (by kernel_rfl) (by kernel_rfl) (by kernel_rfl) (by kernel_rfl) (ac_sort Sh.ltP Sh.sortsP qs (by omega) (by omega)) (.cons (.slice _ _ _ _ _ (by decide)) (.cons (.flatB (by kernel_rfl)) .nil)) ⟨rfl, ⟨rfl, rfl, rfl, (.flats (flats_pair _))⟩, trivial⟩ (by kernel_rfl) (by kernel_rfl) (by kernel_rfl) ⟨rfl, ⟨rfl, rfl, rfl, (.flats (flats_pair _))⟩, trivial⟩ (.flatB (by kernel_rfl))) <| .nil _ _) ?_
    refine aw_w [(2, .slice none 0 0), (3, .slice (some ⟨2, 0, none⟩) ss.length 0)] [(0, ⟨(ps.flatMap ptc), 29, false, 2⟩), (2, ⟨(ss.flatMap ptc), 29, true, 2⟩)] ?_ (by (try (first | rw [hsl] | rw [← hss])); kernel_rfl) (by (try (first | rw [hsl] | rw [← hss])); kernel_rfl) (hc := (by simp [closedB, valsB, valB, List.all_eq_true, List.mem_flatMap, List.mem_range, List.mem_map, i64v, ptc, flat1]; try (intros; simp [valsB, valB, flat1]); try decide))
    refine aw_p 63 (
      .a 1 3 <|
      .p (does_callB (x := .func 83) (ars := #[.tmp 24]) (ats := #[24]) (g := 83) (vs := [.slice (some ⟨2, 0, none⟩) ss.length 0]) (m := 1) (r := 0) (firsts := #[]) (caps := #[]) (args0 := [.slice (some ⟨0, 0, none⟩) ss.length 0]) (pre0 := [(0, ⟨(ss.flatMap ptc), 29, true, 2⟩)]) (post0 := [(0, ⟨((Sp.ddp ss).flatMap ptc), 29, true, 2⟩)]) (pre := [(2, ⟨(ss.flatMap ptc), 29, true, 2⟩)]) (post := [(2, ⟨((Sp.ddp ss).flatMap ptc), 29, true, 2⟩)]) (v0 := .slice (some ⟨0, 0, none⟩) ((Sp.ddp ss).length) 0) (v := .slice (some ⟨2, 0, none⟩) ((Sp.ddp ss).length) 0) [2] (by kernel_rfl) (by kernel_rfl) (by kernel_rfl) (by kernel_rfl) (compact_ok ss (by omega)) (.cons (.slice _ _ _ _ _ (by decide)) .nil) ⟨rfl, ⟨rfl, rfl, rfl, (.flats (flats_pair _))⟩, trivial⟩ (by kernel_rfl) (by kernel_rfl) (by kernel_rfl) ⟨rfl, ⟨rfl, rfl, rfl, (.flats (flats_pair _))⟩, trivial⟩ (.slice _ _ _ _ _ (by decide))) <|
      .a 1 3 <| .nil _ _) ?_
    refine aw_w [(2, .slice none 0 0), (3, .slice (some ⟨2, 0, none⟩) ds.length 0)] [(0, ⟨(ps.flatMap ptc), 29, false, 2⟩), (2, ⟨(ds.flatMap ptc), 29, true, 2⟩)] ?_ (by (try rw [← hds]); kernel_rfl) (by (try rw [← hds]); kernel_rfl) (hc := (by simp [closedB, valsB, valB, List.all_eq_true, List.mem_flatMap, List.mem_range, List.mem_map, i64v, ptc, flat1]; try (intros; simp [valsB, valB, flat1]); try decide))
    refine aw_sq 126 127 ?_
    refine aw_p 253 (
      .a 3 3 <| .nil _ _) ?_
    refine aw_cd 506 507 (decide (((ds.length : Nat) : Int) < 2)) (fun h2 => ?_) (fun h2 => ?_)
    · have h2p : ((((ds.length : Nat) : Int) < 2)) := by first | (simpa using h2) | (have h2q := h2; simp at h2q; omega) | (have h2q := bx1 h2; simp at h2q; omega)
      refine aw_p 1013 (
        .a 2 3 <| .nil _ _) ?_
      have hhe : h = ds := hh.symm.trans (Sp.hullF_short hss hds (by omega))
      refine aw_w [(2, .slice (some ⟨2, 0, none⟩) h.length 0)] [(2, ⟨(h.flatMap ptc), 29, true, 2⟩)] ?_ (by rw [hhe]; kernel_rfl) (by rw [hhe]; kernel_rfl) (hc := (by simp [closedB, valsB, valB, List.all_eq_true, List.mem_flatMap, List.mem_range, List.mem_map, i64v, ptc, flat1]; try (intros; simp [valsB, valB, flat1]); try decide))
      refine aw_r [(1, 2)] [(2, .slice (some ⟨2, 0, none⟩) h.length 0)] [(2, ⟨(h.flatMap ptc), 29, true, 2⟩)] [(2, .slice (some ⟨1, 0, none⟩) h.length 0)] [(1, ⟨(h.flatMap ptc), 29, true, 2⟩)] ?_ ⟨rfl, (.slice _ _ _ _ _ rfl), trivial⟩ ⟨rfl, ⟨rfl, rfl, rfl, (.flats (flats_pair _))⟩, trivial⟩
      refine aw_rt ?_
      refine then_ret ?_
      exact en_ret [.slice (some ⟨1, 0, none⟩) h.length 0] (by kernel_rfl)
    · have h2p : ¬ ((((ds.length : Nat) : Int) < 2)) := by first | (simpa using h2) | (have h2q := h2; simp at h2q; omega) | (have h2q := bx2 h2; simp at h2q; omega)
      refine aw_sk ?_
      refine then_normal ?_
      refine aw_p 255 (
        .a 1 3 <|
        .p (does_callB (x := .func 84) (ars := #[.const (.slice none 0 0), .tmp 30]) (ats := #[24, 24]) (g := 84) (vs := [.slice none 0 0, .slice (some ⟨2, 0, none⟩) ds.length 0]) (m := 1) (r := 1) (firsts := #[]) (caps := #[]) (args0 := [.slice none 0 0, .slice (some ⟨0, 0, none⟩) ds.length 0]) (pre0 := [(0, ⟨(ds.flatMap ptc), 29, true, 2⟩)]) (post0 := [(0, ⟨(ds.flatMap ptc), 29, true, 2⟩), (1, ⟨((Sp.chO ds).flatMap ptc), 29, true, 2⟩)]) (pre := [(2, ⟨(ds.flatMap ptc), 29, true, 2⟩)]) (post := [(2, ⟨(ds.flatMap ptc), 29, true, 2⟩), (3, ⟨((Sp.chO ds).flatMap ptc), 29, true, 2⟩)]) (v0 := .slice (some ⟨1, 0, none⟩) ((Sp.chO ds).length) 0) (v := .slice (some ⟨3, 0, none⟩) ((Sp.chO ds).length) 0) [2, 3] (by kernel_rfl) (by kernel_rfl) (by kernel_rfl) (by kernel_rfl) (chain_nil ds hfd (by omega) (by omega)) (.cons (.flatB (by kernel_rfl)) (.cons (.slice _ _ _ _ _ (by decide)) .nil)) ⟨rfl, ⟨rfl, rfl, rfl, (.flats (flats_pair _))⟩, trivial⟩ (by kernel_rfl) (by kernel_rfl) (by kernel_rfl) ⟨rfl, ⟨rfl, rfl, rfl, (.flats (flats_pair _))⟩, rfl, ⟨rfl, rfl, rfl, (.flats (flats_pair _))⟩, trivial⟩ (.slice _ _ _ _ _ (by decide))) <|
        .a 1 4 <| .nil _ _) ?_
      refine aw_p 511 (
        .a 1 4 <|
        .p (does_callB (x := .func 85) (ars := #[.tmp 32]) (ats := #[24]) (g := 85) (vs := [.slice (some ⟨2, 0, none⟩) ds.length 0]) (m := 1) (r := 0) (firsts := #[]) (caps := #[]) (args0 := [.slice (some ⟨0, 0, none⟩) ds.length 0]) (pre0 := [(0, ⟨(ds.flatMap ptc), 29, true, 2⟩)]) (post0 := [(0, ⟨(ds.reverse.flatMap ptc), 29, true, 2⟩)]) (pre := [(2, ⟨(ds.flatMap ptc), 29, true, 2⟩)]) (post := [(2, ⟨(ds.reverse.flatMap ptc), 29, true, 2⟩)]) (v0 := .tuple #[]) (v := .tuple #[]) [2] (by kernel_rfl) (by kernel_rfl) (by kernel_rfl) (by kernel_rfl) (rev_ok ds (by omega) (by omega)) (.cons (.slice _ _ _ _ _ (by decide)) .nil) ⟨rfl, ⟨rfl, rfl, rfl, (.flats (flats_pair _))⟩, trivial⟩ (by kernel_rfl) (by kernel_rfl) (by kernel_rfl) ⟨rfl, ⟨rfl, rfl, rfl, (.flats (flats_pair _))⟩, trivial⟩ (.flatB (by kernel_rfl))) <| .nil _ _) ?_
      refine aw_w [(2, .slice none 0 0), (3, .slice (some ⟨2, 0, none⟩) ds.reverse.length 0), (6, .slice (some ⟨3, 0, none⟩) ((Sp.chO ds).length) 0)] [(0, ⟨(ps.flatMap ptc), 29, false, 2⟩), (2, ⟨(ds.reverse.flatMap ptc), 29, true, 2⟩), (3, ⟨((Sp.chO ds).flatMap ptc), 29, true, 2⟩)] ?_ (by (try rw [hrl]); kernel_rfl) (by (try rw [hrl]); kernel_rfl) (hc := (by simp [closedB, valsB, valB, List.all_eq_true, List.mem_flatMap, List.mem_range, List.mem_map, i64v, ptc, flat1]; try (intros; simp [valsB, valB, flat1]); try decide))
      refine aw_p 1023 (
        .a 2 4 <|
        .p (does_callB (x := .func 84) (ars := #[.tmp 34, .tmp 35]) (ats := #[24, 24]) (g := 84) (vs := [.slice (some ⟨3, 0, none⟩) ((Sp.chO ds).length) 0, .slice (some ⟨2, 0, none⟩) ds.reverse.length 0]) (m := 2) (r := 1) (firsts := #[]) (caps := #[]) (args0 := [.slice (some ⟨0, 0, none⟩) ((Sp.chO ds).length) 0, .slice (some ⟨1, 0, none⟩) ds.reverse.length 0]) (pre0 := [(0, ⟨((Sp.chO ds).flatMap ptc), 29, true, 2⟩), (1, ⟨(ds.reverse.flatMap ptc), 29, true, 2⟩)]) (post0 := [(1, ⟨(ds.reverse.flatMap ptc), 29, true, 2⟩), (2, ⟨(((Sp.chO ds) ++ Sp.chO ds.reverse).flatMap ptc), 29, true, 2⟩)]) (pre := [(3, ⟨((Sp.chO ds).flatMap ptc), 29, true, 2⟩), (2, ⟨(ds.reverse.flatMap ptc), 29, true, 2⟩)]) (post := [(2, ⟨(ds.reverse.flatMap ptc), 29, true, 2⟩), (4, ⟨(((Sp.chO ds) ++ Sp.chO ds.reverse).flatMap ptc), 29, true, 2⟩)]) (v0 := .slice (some ⟨2, 0, none⟩) (((Sp.chO ds) ++ Sp.chO ds.reverse).length) 0) (v := .slice (some ⟨4, 0, none⟩) (((Sp.chO ds) ++ Sp.chO ds.reverse).length) 0) [3, 2, 4] (by kernel_rfl) (by kernel_rfl) (by kernel_rfl) (by kernel_rfl) (chain_app (Sp.chO ds) ds.reverse hfc hfr (by omega) hzc (by omega)) (.cons (.slice _ _ _ _ _ (by decide)) (.cons (.slice _ _ _ _ _ (by decide)) .nil)) ⟨rfl, ⟨rfl, rfl, rfl, (.flats (flats_pair _))⟩, rfl, ⟨rfl, rfl, rfl, (.flats (flats_pair _))⟩, trivial⟩ (by kernel_rfl) (by kernel_rfl) (by kernel_rfl) ⟨rfl, ⟨rfl, rfl, rfl, (.flats (flats_pair _))⟩, rfl, ⟨rfl, rfl, rfl, (.flats (flats_pair _))⟩, trivial⟩ (.slice _ _ _ _ _ (by decide))) <|
        .a 1 5 <| .nil _ _) ?_
      have hhe : h = Sp.chO ds ++ Sp.chO ds.reverse := hh.symm.trans (Sp.hullF_long hss hds (by omega))
      refine aw_w [(2, .slice (some ⟨4, 0, none⟩) h.length 0)] [(4, ⟨(h.flatMap ptc), 29, true, 2⟩)] ?_ (by rw [hhe]; kernel_rfl) (by rw [hhe]; kernel_rfl) (hc := (by simp [closedB, valsB, valB, List.all_eq_true, List.mem_flatMap, List.mem_range, List.mem_map, i64v, ptc, flat1]; try (intros; simp [valsB, valB, flat1]); try decide))
      refine aw_r [(1, 4)] [(2, .slice (some ⟨4, 0, none⟩) h.length 0)] [(4, ⟨(h.flatMap ptc), 29, true, 2⟩)] [(2, .slice (some ⟨1, 0, none⟩) h.length 0)] [(1, ⟨(h.flatMap ptc), 29, true, 2⟩)] ?_ ⟨rfl, (.slice _ _ _ _ _ rfl), trivial⟩ ⟨rfl, ⟨rfl, rfl, rfl, (.flats (flats_pair _))⟩, trivial⟩
      refine aw_rt ?_
      exact en_ret [.slice (some ⟨1, 0, none⟩) h.length 0] (by kernel_rfl)
theorem hull_ro (ps h : List (Int × Int)) (hh : Sp.hullF (ps.map Sp.lmP) = h) (h1 : 1 ≤ ps.length) (hz : ps.length ≤ 8796093021952) : AC Try.prog 36 1 [.slice (some ⟨0, 0, none⟩) ps.length 0] [(0, ⟨(ps.flatMap ptc), 29, false, 2⟩)] (.slice (some ⟨1, 0, none⟩) h.length 0) [(1, ⟨(h.flatMap ptc), 29, true, 2⟩)] := hullof_ro ps _ _ _ h rfl rfl rfl hh h1 hz
end Go.Proofs.Ytadifmimefmcnaa.Am
