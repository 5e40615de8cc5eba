/-
  The walks of lines out of numbers.
-/
import Derived.Test.YtadifmimefmcnaaProg
import Derived.Test.YtadifmimefmcnaaAm16
import Derived.Test.YtadifmimefmcnaaTl
namespace Go.Proofs.Ytadifmimefmcnaa.Am
open Go Go.Proofs
set_option maxRecDepth 100000
set_option maxHeartbeats 4000000
set_option linter.unusedVariables false
set_option linter.unusedSimpArgs false

theorem line_ok (xs : List Int) (n : Nat) (hn : 2 ≤ n ∧ n ≤ 8) :
    AC Try.prog 55 2 ([.pointer (some ⟨0, 0, none⟩), .int .i64 ((n : Nat) : Int)]) [(0, ⟨[.slice (some ⟨1, 0, none⟩) xs.length 0], 67, true, 1⟩), (1, ⟨(xs.map i64v), 3, false, 1⟩)] (.slice (some ⟨2, 0, none⟩) n 0) [(0, ⟨[.slice (some ⟨1, (min (2 * n) xs.length), none⟩) (xs.length - (2 * n)) 0], 67, true, 1⟩), (2, ⟨((Sp.lnL xs n).flatMap ptc), 29, true, 2⟩)] := by
  refine ac_in Try.func55 (fun w0 W pin => ?_)
  refine aw_p 3 (
    .a 1 3 <| .nil _ _) ?_
  refine aw_p 7 (
    .a 1 3 <|
    .p (does_callB (x := .func 100) (ars := #[.tmp 8]) (ats := #[65]) (g := 100) (vs := [.pointer (some ⟨0, 0, none⟩)]) (m := 2) (r := 0) (firsts := #[]) (caps := #[]) (args0 := [.pointer (some ⟨0, 0, none⟩)]) (pre0 := [(0, ⟨[.slice (some ⟨1, 0, none⟩) xs.length 0], 67, true, 1⟩), (1, ⟨(xs.map i64v), 3, false, 1⟩)]) (post0 := [(0, ⟨[.slice (some ⟨1, (min (2) xs.length), none⟩) (xs.length - (2)) 0], 67, true, 1⟩)]) (pre := [(0, ⟨[.slice (some ⟨1, 0, none⟩) xs.length 0], 67, true, 1⟩), (1, ⟨(xs.map i64v), 3, false, 1⟩)]) (post := [(0, ⟨[.slice (some ⟨1, (min (2) xs.length), none⟩) (xs.length - (2)) 0], 67, true, 1⟩)]) (v0 := .agg #[.int .i64 (xs.getD 0 0 % 81 - 40), .int .i64 (xs.getD 1 0 % 81 - 40)]) (v := .agg #[.int .i64 (xs.getD 0 0 % 81 - 40), .int .i64 (xs.getD 1 0 % 81 - 40)]) [0, 1] (by kernel_rfl) (by kernel_rfl) (by kernel_rfl) (by kernel_rfl) (pointz0 xs) (.cons (.ptr _ _ (by decide)) .nil) ⟨rfl, ⟨rfl, rfl, rfl, (.cons (.slice _ _ _ _ _ (by decide)) .nil)⟩, rfl, ⟨rfl, rfl, rfl, (.flats (flats_map (fun _ => rfl) _))⟩, trivial⟩ (by kernel_rfl) (by kernel_rfl) (by kernel_rfl) ⟨rfl, ⟨rfl, rfl, rfl, (.cons (.slice _ _ _ _ _ (by decide)) .nil)⟩, trivial⟩ (.flatB (by kernel_rfl))) <|
    .a 2 3 <| .nil _ _) ?_
  refine aw_sq 14 15 ?_
  refine aw_bl 0 29 ?_
  refine aw_lp 59 ?_
  refine al_w [(0, .pointer (some ⟨0, 0, none⟩)), (1, .int .i64 ((n : Nat) : Int)), (5, .slice (some ⟨3, 0, none⟩) 1 0)] [(0, ⟨[.slice (some ⟨1, (min (2 * 1) xs.length), none⟩) (xs.length - (2 * 1)) 0], 67, true, 1⟩), (1, ⟨(xs.map i64v), 3, false, 1⟩), (3, ⟨((Sp.lnL xs 1).flatMap ptc), 29, true, 2⟩)] ?_ (hc := (by simp [closedB, valsB, valB, List.all_eq_true, List.mem_flatMap, List.mem_range, List.mem_map, i64v, ptc, flat1]; try (intros; simp [valsB, valB, flat1]); try decide))
  refine al_ind (fun i : Nat => (fun (i : Nat) => mkSt 2 [(0, .pointer (some ⟨0, 0, none⟩)), (1, .int .i64 ((n : Nat) : Int)), (5, .slice (some ⟨3, 0, none⟩) i 0)] [(0, ⟨[.slice (some ⟨1, (min (2 * i) xs.length), none⟩) (xs.length - (2 * i)) 0], 67, true, 1⟩), (1, ⟨(xs.map i64v), 3, false, 1⟩), (3, ⟨((Sp.lnL xs i).flatMap ptc), 29, true, 2⟩)]) i) (fun i : Nat => (fun (i : Nat) => (1 ≤ i ∧ i ≤ n)) i) (fun i : Nat => (fun (i : Nat) => n - i) i) (fun i hi1 ih1 => ?_) 1 (show (1 ≤ 1 ∧ 1 ≤ n) from by omega)
  obtain ⟨i, hv1⟩ : ∃ z, z = i := ⟨i, rfl⟩; subst hv1
  have hi1' : (1 ≤ i ∧ i ≤ n) := hi1
  have hi : 1 ≤ i ∧ i ≤ n := hi1'
  show AL _ _ _ (mkSt 2 [(0, .pointer (some ⟨0, 0, none⟩)), (1, .int .i64 ((n : Nat) : Int)), (5, .slice (some ⟨3, 0, none⟩) i 0)] [(0, ⟨[.slice (some ⟨1, (min (2 * i) xs.length), none⟩) (xs.length - (2 * i)) 0], 67, true, 1⟩), (1, ⟨(xs.map i64v), 3, false, 1⟩), (3, ⟨((Sp.lnL xs i).flatMap ptc), 29, true, 2⟩)]) _
  refine al_round ?_
  refine aw_sq 118 119 ?_
  refine aw_p 237 (
    .a 4 4 <| .nil _ _) ?_
  refine aw_cd 474 475 (decide (((i : Nat) : Int) < ((n : Nat) : Int))) (fun h1 => ?_) (fun h1 => ?_)
  · have h1p : ((((i : Nat) : Int) < ((n : Nat) : Int))) := by first | (simpa using h1) | (have h1q := h1; simp at h1q; omega) | (have h1q := bx1 h1; simp at h1q; omega)
    have hil : i < n := (by omega); have b1 := Sp.emod_bd (xs.getD (2 * i) 0) (n := 81) (by decide)
    refine aw_sk ?_
    refine then_normal ?_
    refine aw_bl 1 239 ?_
    refine aw_d 479 (
      .a 1 4 <|
      .p (does_callB (x := .func 100) (ars := #[.tmp 15]) (ats := #[65]) (g := 100) (vs := [.pointer (some ⟨0, 0, none⟩)]) (m := 2) (r := 0) (firsts := #[]) (caps := #[]) (args0 := [.pointer (some ⟨0, 0, none⟩)]) (pre0 := [(0, ⟨[.slice (some ⟨1, (min (2 * i) xs.length), none⟩) (xs.length - (2 * i)) 0], 67, true, 1⟩), (1, ⟨(xs.map i64v), 3, false, 1⟩)]) (post0 := [(0, ⟨[.slice (some ⟨1, (min (2 * i + 2) xs.length), none⟩) (xs.length - (2 * i + 2)) 0], 67, true, 1⟩)]) (pre := [(0, ⟨[.slice (some ⟨1, (min (2 * i) xs.length), none⟩) (xs.length - (2 * i)) 0], 67, true, 1⟩), (1, ⟨(xs.map i64v), 3, false, 1⟩)]) (post := [(0, ⟨[.slice (some ⟨1, (min (2 * i + 2) xs.length), none⟩) (xs.length - (2 * i + 2)) 0], 67, true, 1⟩)]) (v0 := .agg #[.int .i64 (xs.getD (2 * i) 0 % 81 - 40), .int .i64 (xs.getD (2 * i + 1) 0 % 81 - 40)]) (v := .agg #[.int .i64 (xs.getD (2 * i) 0 % 81 - 40), .int .i64 (xs.getD (2 * i + 1) 0 % 81 - 40)]) [0, 1] (by kernel_rfl) (by kernel_rfl) (by kernel_rfl) (by kernel_rfl) (pointz_ok xs (2 * i)) (.cons (.ptr _ _ (by decide)) .nil) ⟨rfl, ⟨rfl, rfl, rfl, (.cons (.slice _ _ _ _ _ (by decide)) .nil)⟩, rfl, ⟨rfl, rfl, rfl, (.flats (flats_map (fun _ => rfl) _))⟩, trivial⟩ (by kernel_rfl) (by kernel_rfl) (by kernel_rfl) ⟨rfl, ⟨rfl, rfl, rfl, (.cons (.slice _ _ _ _ _ (by decide)) .nil)⟩, trivial⟩ (.flatB (by kernel_rfl))) <|
      .a 3 4 <| .p (does_i ((i - 1 : Nat) : Int) ((show (IntKind.wrap .i64 (((i : Nat) : Int) - 1)) = ((i - 1 : Nat) : Int) from ((wrap_i64 (by omega) (by omega)).trans (by omega)))) .i64) <|
      .p (does_indexSlice (t := 24) (x := .tmp 17) (y := .tmp 20) (k := 3) (off := 0) (n := i) (c := 0) (z := 2) (kd := .i64) (j := ((i - 1 : Nat) : Int)) (by kernel_rfl) (by kernel_rfl) (by kernel_rfl) (by kernel_rfl) (by kernel_rfl) (by omega) (by omega)) <|
      .p (does_load (t := 29) (x := .tmp 21) (k := 3) (off := (0 + (((i - 1 : Nat) : Int)).toNat * 2)) (b := ⟨((Sp.lnL xs i).flatMap ptc), 29, true, 2⟩) (v := .agg #[.int .i64 (((Sp.lnL xs i).getD (i - 1) (0, 0)).1), .int .i64 (((Sp.lnL xs i).getD (i - 1) (0, 0)).2)]) (by kernel_rfl) (by kernel_rfl) (by kernel_rfl) (ldV_pair (j := (i - 1)) (by kernel_rfl) (by kernel_rfl) (by omega) (by first | omega | (simp only [Sp.lnL_len]; omega)))) <|
      .a 4 4 <| .nil _ _) ?_
    refine aw_sq 958 959 ?_
    refine aw_p 1917 (
      .a 2 6 <| .p (does_e (((xs.getD (2 * i) 0 % 81 - 40) == (((Sp.lnL xs i).getD (i - 1) (0, 0)).1)) && (((xs.getD (2 * i + 1) 0 % 81 - 40) == (((Sp.lnL xs i).getD (i - 1) (0, 0)).2)) && true)) (rfl)) <| .nil _ _) ?_
    refine aw_cd 3834 3835 (((xs.getD (2 * i) 0 % 81 - 40) == (((Sp.lnL xs i).getD (i - 1) (0, 0)).1)) && (((xs.getD (2 * i + 1) 0 % 81 - 40) == (((Sp.lnL xs i).getD (i - 1) (0, 0)).2)) && true)) (fun h2 => ?_) (fun h2 => ?_)
    · have h2p : (((xs.getD (2 * i) 0 % 81 - 40) = (((Sp.lnL xs i).getD (i - 1) (0, 0)).1) ∧ (xs.getD (2 * i + 1) 0 % 81 - 40) = (((Sp.lnL xs i).getD (i - 1) (0, 0)).2))) := by first | (simpa using h2) | (have h2q := h2; simp at h2q; omega) | (have h2q := bx1 h2; simp at h2q; omega)
      refine aw_p1 (
        .a 2 6 <| .p (does_i ((xs.getD (2 * i) 0 % 81 - 40) + 1) (wrap_i64 (by omega) (by omega)) .i64) <| .a 2 6 <| .nil _ _) ?_
      refine then_normal ?_
      refine aw_p1 (
        .a 3 6 <|
        .p (does_apy 7 29 2 16 3 i 6 1 ⟨((Sp.lnL xs i).flatMap ptc), 29, true, 2⟩ ⟨[.int .i64 ((xs.getD (2 * i) 0 % 81 - 40) + 1), .int .i64 (xs.getD (2 * i + 1) 0 % 81 - 40)], 29, true, 2⟩ ((Sp.lnL xs (i + 1)).flatMap ptc) (by kernel_rfl) (by kernel_rfl) (by kernel_rfl) (by kernel_rfl) (by kernel_rfl) (by show (((Sp.lnL xs i).flatMap ptc)).length = _; rw [pairs_length, Sp.lnL_len]; omega) (by omega) (by omega) (by rw [← Sp.lnL_snoc (Sp.lpt_eq hi.1 h2)]; simp [ptc, Sp.lnL_len, pairs_length])) <|
        .a 1 8 <| .nil _ _) ?_
      refine block_normal ?_
      refine then_normal ?_
      refine al_r [(3, 7)] [(0, .pointer (some ⟨0, 0, none⟩)), (1, .int .i64 ((n : Nat) : Int)), (5, .slice (some ⟨7, 0, none⟩) (i + 1) 0)] [(0, ⟨[.slice (some ⟨1, (min (2 * (i + 1)) xs.length), none⟩) (xs.length - (2 * (i + 1))) 0], 67, true, 1⟩), (1, ⟨(xs.map i64v), 3, false, 1⟩), (7, ⟨((Sp.lnL xs (i + 1)).flatMap ptc), 29, true, 2⟩)] [(0, .pointer (some ⟨0, 0, none⟩)), (1, .int .i64 ((n : Nat) : Int)), (5, .slice (some ⟨3, 0, none⟩) (i + 1) 0)] [(0, ⟨[.slice (some ⟨1, (min (2 * (i + 1)) xs.length), none⟩) (xs.length - (2 * (i + 1))) 0], 67, true, 1⟩), (1, ⟨(xs.map i64v), 3, false, 1⟩), (3, ⟨((Sp.lnL xs (i + 1)).flatMap ptc), 29, true, 2⟩)] ?_ ⟨rfl, (.ptr _ _ rfl), rfl, (.flatB (by kernel_rfl)), rfl, (.slice _ _ _ _ _ rfl), trivial⟩ ⟨rfl, ⟨rfl, rfl, rfl, (.cons (.slice _ _ _ _ _ rfl) .nil)⟩, rfl, ⟨rfl, rfl, rfl, (.flats (flats_map (fun _ => rfl) _))⟩, rfl, ⟨rfl, rfl, rfl, (.flats (flats_pair _))⟩, trivial⟩
      exact ih1 (i + 1) (show (1 ≤ (i + 1) ∧ (i + 1) ≤ n) from by omega) (show n - (i + 1) < n - i from by omega)
    · have h2p : ¬ (((xs.getD (2 * i) 0 % 81 - 40) = (((Sp.lnL xs i).getD (i - 1) (0, 0)).1) ∧ (xs.getD (2 * i + 1) 0 % 81 - 40) = (((Sp.lnL xs i).getD (i - 1) (0, 0)).2))) := by first | (simpa using h2) | (have h2q := h2; simp at h2q; omega) | (have h2q := bx2 h2; simp at h2q; omega)
      refine aw_sk ?_
      refine then_normal ?_
      refine aw_p1 (
        .a 3 6 <|
        .p (does_apy 7 29 2 16 3 i 6 1 ⟨((Sp.lnL xs i).flatMap ptc), 29, true, 2⟩ ⟨[.int .i64 (xs.getD (2 * i) 0 % 81 - 40), .int .i64 (xs.getD (2 * i + 1) 0 % 81 - 40)], 29, true, 2⟩ ((Sp.lnL xs (i + 1)).flatMap ptc) (by kernel_rfl) (by kernel_rfl) (by kernel_rfl) (by kernel_rfl) (by kernel_rfl) (by show (((Sp.lnL xs i).flatMap ptc)).length = _; rw [pairs_length, Sp.lnL_len]; omega) (by omega) (by omega) (by rw [← Sp.lnL_snoc (Sp.lpt_ne hi.1 h2)]; simp [ptc, Sp.lnL_len, pairs_length])) <|
        .a 1 8 <| .nil _ _) ?_
      refine block_normal ?_
      refine then_normal ?_
      refine al_r [(3, 7)] [(0, .pointer (some ⟨0, 0, none⟩)), (1, .int .i64 ((n : Nat) : Int)), (5, .slice (some ⟨7, 0, none⟩) (i + 1) 0)] [(0, ⟨[.slice (some ⟨1, (min (2 * (i + 1)) xs.length), none⟩) (xs.length - (2 * (i + 1))) 0], 67, true, 1⟩), (1, ⟨(xs.map i64v), 3, false, 1⟩), (7, ⟨((Sp.lnL xs (i + 1)).flatMap ptc), 29, true, 2⟩)] [(0, .pointer (some ⟨0, 0, none⟩)), (1, .int .i64 ((n : Nat) : Int)), (5, .slice (some ⟨3, 0, none⟩) (i + 1) 0)] [(0, ⟨[.slice (some ⟨1, (min (2 * (i + 1)) xs.length), none⟩) (xs.length - (2 * (i + 1))) 0], 67, true, 1⟩), (1, ⟨(xs.map i64v), 3, false, 1⟩), (3, ⟨((Sp.lnL xs (i + 1)).flatMap ptc), 29, true, 2⟩)] ?_ ⟨rfl, (.ptr _ _ rfl), rfl, (.flatB (by kernel_rfl)), rfl, (.slice _ _ _ _ _ rfl), trivial⟩ ⟨rfl, ⟨rfl, rfl, rfl, (.cons (.slice _ _ _ _ _ rfl) .nil)⟩, rfl, ⟨rfl, rfl, rfl, (.flats (flats_map (fun _ => rfl) _))⟩, rfl, ⟨rfl, rfl, rfl, (.flats (flats_pair _))⟩, trivial⟩
      exact ih1 (i + 1) (show (1 ≤ (i + 1) ∧ (i + 1) ≤ n) from by omega) (show n - (i + 1) < n - i from by omega)
  · have h1p : ¬ ((((i : Nat) : Int) < ((n : Nat) : Int))) := by first | (simpa using h1) | (have h1q := h1; simp at h1q; omega) | (have h1q := bx2 h1; simp at h1q; omega)
    have hin : i = n := by omega
    refine aw_ex 0 ?_
    refine then_exit ?_
    refine then_exit ?_
    refine block_exit ?_
    refine then_normal ?_
    refine aw_w [(5, .slice (some ⟨3, 0, none⟩) n 0)] [(0, ⟨[.slice (some ⟨1, (min (2 * n) xs.length), none⟩) (xs.length - (2 * n)) 0], 67, true, 1⟩), (1, ⟨(xs.map i64v), 3, false, 1⟩), (3, ⟨((Sp.lnL xs n).flatMap ptc), 29, true, 2⟩)] ?_ (by subst hin; kernel_rfl) (by subst hin; kernel_rfl) (hc := (by simp [closedB, valsB, valB, List.all_eq_true, List.mem_flatMap, List.mem_range, List.mem_map, i64v, ptc, flat1]; try (intros; simp [valsB, valB, flat1]); try decide))
    refine aw_p 31 (
      .a 2 4 <| .nil _ _) ?_
    refine aw_r [(2, 3)] [(4, .slice (some ⟨3, 0, none⟩) n 0)] [(0, ⟨[.slice (some ⟨1, (min (2 * n) xs.length), none⟩) (xs.length - (2 * n)) 0], 67, true, 1⟩), (1, ⟨(xs.map i64v), 3, false, 1⟩), (3, ⟨((Sp.lnL xs n).flatMap ptc), 29, true, 2⟩)] [(4, .slice (some ⟨2, 0, none⟩) n 0)] [(0, ⟨[.slice (some ⟨1, (min (2 * n) xs.length), none⟩) (xs.length - (2 * n)) 0], 67, true, 1⟩), (1, ⟨(xs.map i64v), 3, false, 1⟩), (2, ⟨((Sp.lnL xs n).flatMap ptc), 29, true, 2⟩)] ?_ ⟨rfl, (.slice _ _ _ _ _ rfl), trivial⟩ ⟨rfl, ⟨rfl, rfl, rfl, (.cons (.slice _ _ _ _ _ rfl) .nil)⟩, rfl, ⟨rfl, rfl, rfl, (.flats (flats_map (fun _ => rfl) _))⟩, rfl, ⟨rfl, rfl, rfl, (.flats (flats_pair _))⟩, trivial⟩
    refine aw_rt ?_
    exact en_ret [.slice (some ⟨2, 0, none⟩) n 0] (by kernel_rfl)

theorem mline_ok (xs : List Int) (n : Nat) (hx : xs.length % 7 + 2 = n) (hn : 2 ≤ n ∧ n ≤ 8) :
    AC Try.prog 14 1 ([.slice (some ⟨0, 0, none⟩) xs.length 0]) [(0, ⟨(xs.map i64v), 3, false, 1⟩)] (.slice (some ⟨1, 0, none⟩) n 0) [(1, ⟨((Sp.lnL xs n).flatMap ptc), 29, true, 2⟩)] := by
  refine ac_in Try.func14 (fun w0 W pin => ?_)
  refine aw_p 3 (
    .a 1 1 <| .nil _ _) ?_
  refine aw_p 7 (
    .a 5 1 <| .p (does_c (below_ok ((xs.length : Nat) : Int) 7 (by decide) (by decide))) <| .p (does_i ((n : Nat) : Int) ((show (IntKind.wrap .i64 (2 + (((xs.length : Nat) : Int) % 7))) = ((n : Nat) : Int) from ((wrap_i64 (by omega) (by omega)).trans (by omega)))) .i64) <|
    .p (does_callB (x := .func 55) (ars := #[.tmp 5, .tmp 9]) (ats := #[65, 3]) (g := 55) (vs := [.pointer (some ⟨1, 0, none⟩), .int .i64 ((n : Nat) : Int)]) (m := 2) (r := 1) (firsts := #[]) (caps := #[]) (args0 := [.pointer (some ⟨0, 0, none⟩), .int .i64 ((n : Nat) : Int)]) (pre0 := [(0, ⟨[.slice (some ⟨1, 0, none⟩) xs.length 0], 67, true, 1⟩), (1, ⟨(xs.map i64v), 3, false, 1⟩)]) (post0 := [(0, ⟨[.slice (some ⟨1, (min (2 * n) xs.length), none⟩) (xs.length - (2 * n)) 0], 67, true, 1⟩), (2, ⟨((Sp.lnL xs n).flatMap ptc), 29, true, 2⟩)]) (pre := [(1, ⟨[.slice (some ⟨0, 0, none⟩) xs.length 0], 67, true, 1⟩), (0, ⟨(xs.map i64v), 3, false, 1⟩)]) (post := [(1, ⟨[.slice (some ⟨0, (min (2 * n) xs.length), none⟩) (xs.length - (2 * n)) 0], 67, true, 1⟩), (2, ⟨((Sp.lnL xs n).flatMap ptc), 29, true, 2⟩)]) (v0 := .slice (some ⟨2, 0, none⟩) n 0) (v := .slice (some ⟨2, 0, none⟩) n 0) [1, 0, 2] (by kernel_rfl) (by kernel_rfl) (by kernel_rfl) (by kernel_rfl) (line_ok xs n hn) (.cons (.ptr _ _ (by decide)) (.cons (.flatB (by kernel_rfl)) .nil)) ⟨rfl, ⟨rfl, rfl, rfl, (.cons (.slice _ _ _ _ _ (by decide)) .nil)⟩, rfl, ⟨rfl, rfl, rfl, (.flats (flats_map (fun _ => rfl) _))⟩, trivial⟩ (by kernel_rfl) (by kernel_rfl) (by kernel_rfl) ⟨rfl, ⟨rfl, rfl, rfl, (.cons (.slice _ _ _ _ _ (by decide)) .nil)⟩, rfl, ⟨rfl, rfl, rfl, (.flats (flats_pair _))⟩, trivial⟩ (.slice _ _ _ _ _ (by decide))) <|
    .a 1 3 <| .nil _ _) ?_
  refine aw_r [(1, 2)] [(2, .slice (some ⟨2, 0, none⟩) n 0)] [(0, ⟨(xs.map i64v), 3, false, 1⟩), (2, ⟨((Sp.lnL xs n).flatMap ptc), 29, true, 2⟩)] [(2, .slice (some ⟨1, 0, none⟩) n 0)] [(0, ⟨(xs.map i64v), 3, false, 1⟩), (1, ⟨((Sp.lnL xs n).flatMap ptc), 29, true, 2⟩)] ?_ ⟨rfl, (.slice _ _ _ _ _ rfl), trivial⟩ ⟨rfl, ⟨rfl, rfl, rfl, (.flats (flats_map (fun _ => rfl) _))⟩, rfl, ⟨rfl, rfl, rfl, (.flats (flats_pair _))⟩, trivial⟩
  refine aw_rt ?_
  exact en_ret [.slice (some ⟨1, 0, none⟩) n 0] (by kernel_rfl)


end Go.Proofs.Ytadifmimefmcnaa.Am
