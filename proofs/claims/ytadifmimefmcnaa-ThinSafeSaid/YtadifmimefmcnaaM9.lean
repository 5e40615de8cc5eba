import Derived.Test.YtadifmimefmcnaaProg
import Derived.Test.YtadifmimefmcnaaM2
import Derived.Test.YtadifmimefmcnaaM7
import Derived.Test.YtadifmimefmcnaaM8
import Derived.Test.YtadifmimefmcnaaM4
import Derived.Test.YtadifmimefmcnaaM3
import Derived.Test.YtadifmimefmcnaaM6
import Derived.Test.YtadifmimefmcnaaM5
namespace Go.Proofs.Ytadifmimefmcnaa.Am
open Go Go.Proofs
set_option maxRecDepth 100000
set_option maxHeartbeats 4000000
set_option linter.unusedVariables false
set_option linter.unusedSimpArgs false
theorem free_ok (X : List Row) (u k : Nat) (hX : ∀ i, Sp.Few 1048576 (X.getD i [])) (hz : ∀ i, i < X.length → 2 ≤ (X.getD i []).length ∧ (X.getD i []).length ≤ 200) (hn : X.length ≤ 20) (hi : u < X.length) (hk : 1 ≤ k ∧ k < (X.getD u []).length) :
    AC Try.prog 65 (1 + X.length) [.slice (some ⟨0, 0, none⟩) X.length 0, .int .i64 ((u : Nat) : Int), .int .i64 ((k : Nat) : Int)] (famP 24 29 X) (.bool (Sp.freeB X u k)) [] := by
  have zi := hz u hi; have f1 := hX u k; have f2 := hX u (k - 1)
  refine acF Try.func65 ⟨.slice _ _ _ _ rfl, only_flat rfl, only_flat rfl, trivial⟩ rfl (fun w0 W pin => ?_)
  refine aw_p 3 (
    .a 1 1 <| .nil _ _) ?_
  refine aw_d 7 (
    .a 2 1 <| .p (does_indexSlice (t := 36) (x := .tmp 16) (y := .tmp 17) (k := 0) (off := 0) (n := X.length) (c := 0) (z := 1) (kd := .i64) (j := ((u : Nat) : Int)) (by kernel_rfl) (by kernel_rfl) (by kernel_rfl) (by kernel_rfl) (by kernel_rfl) (by omega) (by omega)) <|
    .p (does_load (t := 24) (x := .tmp 18) (k := 0) (off := (0 + (((u : Nat) : Int)).toNat * 1)) (b := ⟨(hds (· + 200) X), 24, false, 1⟩) (v := .slice (some ⟨(u + 200), 0, none⟩) ((X.getD u []).length) 0) (by kernel_rfl) (by kernel_rfl) (by kernel_rfl) (by rw [show (0 + (((u : Nat) : Int)).toNat * 1) = u from (by omega)]; exact ldV_hds (by kernel_rfl) (by kernel_rfl) (by omega))) <|
    .a 1 1 <| .p (does_i ((k - 1 : Nat) : Int) ((show (IntKind.wrap .i64 (((k : Nat) : Int) - 1)) = ((k - 1 : Nat) : Int) from ((wrap_i64 (by omega) (by omega)).trans (by omega)))) .i64) <|
    .p (does_indexSlice (t := 24) (x := .tmp 19) (y := .tmp 21) (k := (u + 200)) (off := 0) (n := ((X.getD u []).length)) (c := 0) (z := 2) (kd := .i64) (j := ((k - 1 : Nat) : Int)) (by kernel_rfl) (by kernel_rfl) (by kernel_rfl) (by kernel_rfl) (by kernel_rfl) (by omega) (by omega)) <|
    .p (does_load (t := 29) (x := .tmp 22) (k := (u + 200)) (off := (0 + (((k - 1 : Nat) : Int)).toNat * 2)) (b := ⟨((X.getD u []).flatMap ptc), 29, false, 2⟩) (v := .agg #[.int .i64 (((X.getD u []).getD (k - 1) (0, 0)).1), .int .i64 (((X.getD u []).getD (k - 1) (0, 0)).2)]) (by kernel_rfl) (by kernel_rfl) (by kernel_rfl) (ldV_pair (j := (k - 1)) (by kernel_rfl) (by kernel_rfl) (by omega) (by omega))) <|
    .a 2 1 <| .p (does_indexSlice (t := 36) (x := .tmp 24) (y := .tmp 25) (k := 0) (off := 0) (n := X.length) (c := 0) (z := 1) (kd := .i64) (j := ((u : Nat) : Int)) (by kernel_rfl) (by kernel_rfl) (by kernel_rfl) (by kernel_rfl) (by kernel_rfl) (by omega) (by omega)) <|
    .p (does_load (t := 24) (x := .tmp 26) (k := 0) (off := (0 + (((u : Nat) : Int)).toNat * 1)) (b := ⟨(hds (· + 200) X), 24, false, 1⟩) (v := .slice (some ⟨(u + 200), 0, none⟩) ((X.getD u []).length) 0) (by kernel_rfl) (by kernel_rfl) (by kernel_rfl) (by rw [show (0 + (((u : Nat) : Int)).toNat * 1) = u from (by omega)]; exact ldV_hds (by kernel_rfl) (by kernel_rfl) (by omega))) <|
    .a 1 1 <| .p (does_indexSlice (t := 24) (x := .tmp 27) (y := .tmp 28) (k := (u + 200)) (off := 0) (n := ((X.getD u []).length)) (c := 0) (z := 2) (kd := .i64) (j := ((k : Nat) : Int)) (by kernel_rfl) (by kernel_rfl) (by kernel_rfl) (by kernel_rfl) (by kernel_rfl) (by omega) (by omega)) <|
    .p (does_load (t := 29) (x := .tmp 29) (k := (u + 200)) (off := (0 + (((k : Nat) : Int)).toNat * 2)) (b := ⟨((X.getD u []).flatMap ptc), 29, false, 2⟩) (v := .agg #[.int .i64 (((X.getD u []).getD k (0, 0)).1), .int .i64 (((X.getD u []).getD k (0, 0)).2)]) (by kernel_rfl) (by kernel_rfl) (by kernel_rfl) (ldV_pair (j := k) (by kernel_rfl) (by kernel_rfl) (by omega) (by omega))) <|
    .a 4 1 <| .nil _ _) ?_
  refine aw_sq 14 15 ?_
  refine aw_p 29 (
    .a 2 3 <| .p (does_e (((((X.getD u []).getD (k - 1) (0, 0)).1) == (((X.getD u []).getD k (0, 0)).1)) && (((((X.getD u []).getD (k - 1) (0, 0)).2) == (((X.getD u []).getD k (0, 0)).2)) && true)) (rfl)) <| .nil _ _) ?_
  refine aw_cd 58 59 (((((X.getD u []).getD (k - 1) (0, 0)).1) == (((X.getD u []).getD k (0, 0)).1)) && (((((X.getD u []).getD (k - 1) (0, 0)).2) == (((X.getD u []).getD k (0, 0)).2)) && true)) (fun h1 => ?_) (fun h1 => ?_)
  · have h1p : (((((X.getD u []).getD (k - 1) (0, 0)).1) = (((X.getD u []).getD k (0, 0)).1) ∧ (((X.getD u []).getD (k - 1) (0, 0)).2) = (((X.getD u []).getD k (0, 0)).2))) := by first | (simpa using h1) | (have h1q := h1; simp at h1q; omega) | (have h1q := bx1 h1; simp at h1q; omega)
    refine aw_p 117 (
      .a 1 3 <| .nil _ _) ?_
    refine aw_rt ?_
    refine then_ret ?_
    exact en_ret [.bool false] (show (.bool false : Value) = (.bool (Sp.freeB X u k)) from (congrArg Value.bool (show false = (Sp.freeB X u k) from by (first | exact (Sp.frB_eq (by assumption)).symm | exact (Sp.frB_no hjl (Sp.fro_y hji (Sp.freeR_bad hm.1 hml (by first | exact Sp.perm_n (by assumption) (by assumption) | exact Sp.perm_t (by assumption) (by omega) (by assumption))))).symm | exact (Sp.frB_no hjl (Sp.fro_n hji (Sp.freeR_bad hm.1 hml (by first | exact Sp.perm_n (by assumption) (by assumption) | exact Sp.perm_f (by assumption) (by assumption))))).symm | exact (Sp.frB_yes (by assumption) (by rw [hje] at hA; exact hA)).symm))))
  · have h1p : ¬ (((((X.getD u []).getD (k - 1) (0, 0)).1) = (((X.getD u []).getD k (0, 0)).1) ∧ (((X.getD u []).getD (k - 1) (0, 0)).2) = (((X.getD u []).getD k (0, 0)).2))) := by first | (simpa using h1) | (have h1q := h1; simp at h1q; omega) | (have h1q := bx2 h1; simp at h1q; omega)
    refine aw_sk ?_
    refine then_normal ?_
    refine aw_sq 30 31 ?_
    refine aw_p 61 (
      .a 2 3 <| .p (does_i ((u + 1 : Nat) : Int) ((show (IntKind.wrap .i64 (((u : Nat) : Int) + 1)) = ((u + 1 : Nat) : Int) from ((wrap_i64 (by omega) (by omega)).trans (by omega)))) .i64) <|
      .p (does_val (v' := .slice (some ⟨0, 0, none⟩) (u + 1) 0) (does_slice (t := 36) (x := .tmp 34) (lo := none) (hi := some (.tmp 36)) (k := 0) (off := 0) (n := X.length) (c := 0) (z := 1) (l := 0) (h := ((u + 1 : Nat) : Int)) (m := (u + 1)) (b := ⟨(hds (· + 200) X), 24, false, 1⟩) (by kernel_rfl) (by kernel_rfl) (by kernel_rfl) (by kernel_rfl) (by kernel_rfl) (by kernel_rfl) (by kernel_rfl) (by kernel_rfl) (by omega) (by omega) (by omega) (by omega)) (by kernel_rfl)) <|
      .a 2 3 <| .nil _ _) ?_
    refine aw_bl 0 123 ?_
    refine aw_lp 247 ?_
    refine al_wF [(0, .slice (some ⟨0, 0, none⟩) X.length 0), (1, .int .i64 ((u : Nat) : Int)), (2, .int .i64 ((k : Nat) : Int)), (7, .pointer (some ⟨1, 0, none⟩)), (8, .pointer (some ⟨2, 0, none⟩)), (37, .slice (some ⟨0, 0, none⟩) (u + 1) 0), (38, .int .i64 ((u + 1 : Nat) : Int)), (39, .int .i64 ((0 : Nat) : Int))] [(0, ⟨(hds (· + 200) X), 24, false, 1⟩), (1, ⟨[.int .i64 (((X.getD u []).getD (k - 1) (0, 0)).1), .int .i64 (((X.getD u []).getD (k - 1) (0, 0)).2)], 29, true, 2⟩), (2, ⟨[.int .i64 (((X.getD u []).getD k (0, 0)).1), .int .i64 (((X.getD u []).getD k (0, 0)).2)], 29, true, 2⟩)] (famR 29 X) ⟨(hds_cl _ _ _), (by kernel_rfl), (by kernel_rfl), trivial⟩ (famR_flat _ _) ?_
    refine al_ind (fun i : Nat => (fun (j : Nat) => mkF 1 [(0, .slice (some ⟨0, 0, none⟩) X.length 0), (1, .int .i64 ((u : Nat) : Int)), (2, .int .i64 ((k : Nat) : Int)), (7, .pointer (some ⟨1, 0, none⟩)), (8, .pointer (some ⟨2, 0, none⟩)), (37, .slice (some ⟨0, 0, none⟩) (u + 1) 0), (38, .int .i64 ((u + 1 : Nat) : Int)), (39, .int .i64 ((j : Nat) : Int))] [(0, ⟨(hds (· + 200) X), 24, false, 1⟩), (1, ⟨[.int .i64 (((X.getD u []).getD (k - 1) (0, 0)).1), .int .i64 (((X.getD u []).getD (k - 1) (0, 0)).2)], 29, true, 2⟩), (2, ⟨[.int .i64 (((X.getD u []).getD k (0, 0)).1), .int .i64 (((X.getD u []).getD k (0, 0)).2)], 29, true, 2⟩)] (famR 29 X)) i) (fun i : Nat => (fun (j : Nat) => (j ≤ u + 1) ∧ ((List.range j).all (Sp.fro X u k) = true)) i) (fun i : Nat => (fun (j : Nat) => u + 1 - j) i) (fun i hi1 ih1 => ?_) 0 (show (0 ≤ u + 1) ∧ ((List.range 0).all (Sp.fro X u k) = true) from ⟨by omega, by rfl⟩)
    obtain ⟨j, hv1⟩ : ∃ z, z = i := ⟨i, rfl⟩; subst hv1
    have hi1' : (j ≤ u + 1) ∧ ((List.range j).all (Sp.fro X u k) = true) := hi1
    obtain ⟨hj, hA⟩ := hi1'
    show AL _ _ _ (mkF 1 [(0, .slice (some ⟨0, 0, none⟩) X.length 0), (1, .int .i64 ((u : Nat) : Int)), (2, .int .i64 ((k : Nat) : Int)), (7, .pointer (some ⟨1, 0, none⟩)), (8, .pointer (some ⟨2, 0, none⟩)), (37, .slice (some ⟨0, 0, none⟩) (u + 1) 0), (38, .int .i64 ((u + 1 : Nat) : Int)), (39, .int .i64 ((j : Nat) : Int))] [(0, ⟨(hds (· + 200) X), 24, false, 1⟩), (1, ⟨[.int .i64 (((X.getD u []).getD (k - 1) (0, 0)).1), .int .i64 (((X.getD u []).getD (k - 1) (0, 0)).2)], 29, true, 2⟩), (2, ⟨[.int .i64 (((X.getD u []).getD k (0, 0)).1), .int .i64 (((X.getD u []).getD k (0, 0)).2)], 29, true, 2⟩)] (famR 29 X)) _
    refine al_round ?_
    refine aw_p 495 (
      .a 1 3 <| .nil _ _) ?_
    refine aw_sq 990 991 ?_
    refine aw_cd 1980 1981 (decide (((j : Nat) : Int) < ((u + 1 : Nat) : Int))) (fun h2 => ?_) (fun h2 => ?_)
    · have h2p : ((((j : Nat) : Int) < ((u + 1 : Nat) : Int))) := by first | (simpa using h2) | (have h2q := h2; simp at h2q; omega) | (have h2q := bx1 h2; simp at h2q; omega)
      have hjl : j < u + 1 := by omega
      refine aw_sk ?_
      refine then_normal ?_
      refine aw_sq 1982 1983 ?_
      refine aw_bl 1 3965 ?_
      refine aw_p 7931 (
        .a 1 3 <| .p (does_indexSlice (t := 36) (x := .tmp 37) (y := .tmp 39) (k := 0) (off := 0) (n := (u + 1)) (c := 0) (z := 1) (kd := .i64) (j := ((j : Nat) : Int)) (by kernel_rfl) (by kernel_rfl) (by kernel_rfl) (by kernel_rfl) (by kernel_rfl) (by omega) (by omega)) <|
        .p (does_load (t := 24) (x := .tmp 42) (k := 0) (off := (0 + (((j : Nat) : Int)).toNat * 1)) (b := ⟨(hds (· + 200) X), 24, false, 1⟩) (v := .slice (some ⟨(j + 200), 0, none⟩) ((X.getD j []).length) 0) (by kernel_rfl) (by kernel_rfl) (by kernel_rfl) (by rw [show (0 + (((j : Nat) : Int)).toNat * 1) = j from (by omega)]; exact ldV_hds (by kernel_rfl) (by kernel_rfl) (by omega))) <|
        .a 2 3 <| .nil _ _) ?_
      refine aw_p 15863 (
        .a 3 3 <| .nil _ _) ?_
      refine aw_sq 31726 31727 ?_
      refine aw_p 63453 (
        .a 3 3 <| .nil _ _) ?_
      refine aw_cd 126906 126907 (((j : Nat) : Int) == ((u : Nat) : Int)) (fun h3 => ?_) (fun h3 => ?_)
      · have h3p : ((((j : Nat) : Int) = ((u : Nat) : Int))) := by first | (simpa using h3) | (have h3q := h3; simp at h3q; omega) | (have h3q := bx1 h3; simp at h3q; omega)
        refine aw_p1 (
          .a 2 3 <| .nil _ _) ?_
        refine then_normal ?_
        refine aw_p 63455 (
          .a 1 3 <| .nil _ _) ?_
        refine aw_bl 2 126911 ?_
        have hji : j = u := by omega
        have hlj : k ≤ (X.getD j []).length := (by rw [hji]; omega)
        have zj := hz j (by omega)
        refine aw_lp 253823 ?_
        refine al_wF [(0, .slice (some ⟨0, 0, none⟩) X.length 0), (1, .int .i64 ((u : Nat) : Int)), (2, .int .i64 ((k : Nat) : Int)), (7, .pointer (some ⟨1, 0, none⟩)), (8, .pointer (some ⟨2, 0, none⟩)), (9, .int .i64 ((j : Nat) : Int)), (10, .slice (some ⟨(j + 200), 0, none⟩) ((X.getD j []).length) 0), (11, .int .i64 ((k : Nat) : Int)), (12, .int .i64 ((1 : Nat) : Int)), (37, .slice (some ⟨0, 0, none⟩) (u + 1) 0), (38, .int .i64 ((u + 1 : Nat) : Int)), (39, .int .i64 ((j : Nat) : Int))] [(0, ⟨(hds (· + 200) X), 24, false, 1⟩), (1, ⟨[.int .i64 (((X.getD u []).getD (k - 1) (0, 0)).1), .int .i64 (((X.getD u []).getD (k - 1) (0, 0)).2)], 29, true, 2⟩), (2, ⟨[.int .i64 (((X.getD u []).getD k (0, 0)).1), .int .i64 (((X.getD u []).getD k (0, 0)).2)], 29, true, 2⟩)] (famR 29 X) ⟨(hds_cl _ _ _), (by kernel_rfl), (by kernel_rfl), trivial⟩ (famR_flat _ _) ?_
        refine al_ind (fun i : Nat => (fun (m : Nat) => mkF 1 [(0, .slice (some ⟨0, 0, none⟩) X.length 0), (1, .int .i64 ((u : Nat) : Int)), (2, .int .i64 ((k : Nat) : Int)), (7, .pointer (some ⟨1, 0, none⟩)), (8, .pointer (some ⟨2, 0, none⟩)), (9, .int .i64 ((j : Nat) : Int)), (10, .slice (some ⟨(j + 200), 0, none⟩) ((X.getD j []).length) 0), (11, .int .i64 ((k : Nat) : Int)), (12, .int .i64 ((m : Nat) : Int)), (37, .slice (some ⟨0, 0, none⟩) (u + 1) 0), (38, .int .i64 ((u + 1 : Nat) : Int)), (39, .int .i64 ((j : Nat) : Int))] [(0, ⟨(hds (· + 200) X), 24, false, 1⟩), (1, ⟨[.int .i64 (((X.getD u []).getD (k - 1) (0, 0)).1), .int .i64 (((X.getD u []).getD (k - 1) (0, 0)).2)], 29, true, 2⟩), (2, ⟨[.int .i64 (((X.getD u []).getD k (0, 0)).1), .int .i64 (((X.getD u []).getD k (0, 0)).2)], 29, true, 2⟩)] (famR 29 X)) i) (fun i : Nat => (fun (m : Nat) => (1 ≤ m ∧ m ≤ k) ∧ (Sp.freeR (X.getD u []) k true (X.getD j []) m = true)) i) (fun i : Nat => (fun (m : Nat) => k - m) i) (fun i hi2 ih2 => ?_) 1 (show (1 ≤ 1 ∧ 1 ≤ k) ∧ (Sp.freeR (X.getD u []) k true (X.getD j []) 1 = true) from ⟨by omega, by rfl⟩)
        obtain ⟨m, hv2⟩ : ∃ z, z = i := ⟨i, rfl⟩; subst hv2
        have hi2' : (1 ≤ m ∧ m ≤ k) ∧ (Sp.freeR (X.getD u []) k true (X.getD j []) m = true) := hi2
        obtain ⟨hm, hB⟩ := hi2'
        show AL _ _ _ (mkF 1 [(0, .slice (some ⟨0, 0, none⟩) X.length 0), (1, .int .i64 ((u : Nat) : Int)), (2, .int .i64 ((k : Nat) : Int)), (7, .pointer (some ⟨1, 0, none⟩)), (8, .pointer (some ⟨2, 0, none⟩)), (9, .int .i64 ((j : Nat) : Int)), (10, .slice (some ⟨(j + 200), 0, none⟩) ((X.getD j []).length) 0), (11, .int .i64 ((k : Nat) : Int)), (12, .int .i64 ((m : Nat) : Int)), (37, .slice (some ⟨0, 0, none⟩) (u + 1) 0), (38, .int .i64 ((u + 1 : Nat) : Int)), (39, .int .i64 ((j : Nat) : Int))] [(0, ⟨(hds (· + 200) X), 24, false, 1⟩), (1, ⟨[.int .i64 (((X.getD u []).getD (k - 1) (0, 0)).1), .int .i64 (((X.getD u []).getD (k - 1) (0, 0)).2)], 29, true, 2⟩), (2, ⟨[.int .i64 (((X.getD u []).getD k (0, 0)).1), .int .i64 (((X.getD u []).getD k (0, 0)).2)], 29, true, 2⟩)] (famR 29 X)) _
        have g1 := hX j m; have g2 := hX j (m - 1)
        refine al_round ?_
        refine aw_sq 507646 507647 ?_
        refine aw_p 1015293 (
          .a 3 3 <| .nil _ _) ?_
        refine aw_cd 2030586 2030587 (decide (((m : Nat) : Int) < ((k : Nat) : Int))) (fun h4 => ?_) (fun h4 => ?_)
        · have h4p : ((((m : Nat) : Int) < ((k : Nat) : Int))) := by first | (simpa using h4) | (have h4q := h4; simp at h4q; omega) | (have h4q := bx1 h4; simp at h4q; omega)
          have hml : m < k := by omega
          refine aw_sk ?_
          refine then_normal ?_
          refine aw_sq 1015294 1015295 ?_
          refine aw_bl 3 2030589 ?_
          refine aw_d 4061179 (
            .a 2 3 <| .p (does_i ((m - 1 : Nat) : Int) ((show (IntKind.wrap .i64 (((m : Nat) : Int) - 1)) = ((m - 1 : Nat) : Int) from ((wrap_i64 (by omega) (by omega)).trans (by omega)))) .i64) <|
            .p (does_indexSlice (t := 24) (x := .tmp 55) (y := .tmp 57) (k := (j + 200)) (off := 0) (n := ((X.getD j []).length)) (c := 0) (z := 2) (kd := .i64) (j := ((m - 1 : Nat) : Int)) (by kernel_rfl) (by kernel_rfl) (by kernel_rfl) (by kernel_rfl) (by kernel_rfl) (by omega) (by omega)) <|
            .p (does_load (t := 29) (x := .tmp 58) (k := (j + 200)) (off := (0 + (((m - 1 : Nat) : Int)).toNat * 2)) (b := ⟨((X.getD j []).flatMap ptc), 29, false, 2⟩) (v := .agg #[.int .i64 (((X.getD j []).getD (m - 1) (0, 0)).1), .int .i64 (((X.getD j []).getD (m - 1) (0, 0)).2)]) (by kernel_rfl) (by kernel_rfl) (by kernel_rfl) (ldV_pair (j := (m - 1)) (by kernel_rfl) (by kernel_rfl) (by omega) (by omega))) <|
            .a 2 3 <| .p (does_indexSlice (t := 24) (x := .tmp 60) (y := .tmp 61) (k := (j + 200)) (off := 0) (n := ((X.getD j []).length)) (c := 0) (z := 2) (kd := .i64) (j := ((m : Nat) : Int)) (by kernel_rfl) (by kernel_rfl) (by kernel_rfl) (by kernel_rfl) (by kernel_rfl) (by omega) (by omega)) <|
            .p (does_load (t := 29) (x := .tmp 62) (k := (j + 200)) (off := (0 + (((m : Nat) : Int)).toNat * 2)) (b := ⟨((X.getD j []).flatMap ptc), 29, false, 2⟩) (v := .agg #[.int .i64 (((X.getD j []).getD m (0, 0)).1), .int .i64 (((X.getD j []).getD m (0, 0)).2)]) (by kernel_rfl) (by kernel_rfl) (by kernel_rfl) (ldV_pair (j := m) (by kernel_rfl) (by kernel_rfl) (by omega) (by omega))) <|
            .a 4 3 <| .nil _ _) ?_
          refine aw_p 8122359 (
            .a 4 5 <|
            .p (does_c (segmeet_in (((X.getD u []).getD (k - 1) (0, 0)).1) (((X.getD u []).getD (k - 1) (0, 0)).2) (((X.getD u []).getD k (0, 0)).1) (((X.getD u []).getD k (0, 0)).2) (((X.getD j []).getD (m - 1) (0, 0)).1) (((X.getD j []).getD (m - 1) (0, 0)).2) (((X.getD j []).getD m (0, 0)).1) (((X.getD j []).getD m (0, 0)).2) (by omega) (by omega) (by omega) (by omega) (by omega) (by omega) (by omega) (by omega) (by omega) (by omega) (by omega) (by omega) (by omega) (by omega) (by omega) (by omega))) <|
            .a 1 5 <| .nil _ _) ?_
          refine aw_bl 4 16244719 ?_
          refine aw_p 32489439 (
            .a 3 5 <| .nil _ _) ?_
          refine aw_cd 64978878 64978879 ((Sp.meetN (((X.getD u []).getD (k - 1) (0, 0)).1) (((X.getD u []).getD (k - 1) (0, 0)).2) (((X.getD u []).getD k (0, 0)).1) (((X.getD u []).getD k (0, 0)).2) (((X.getD j []).getD (m - 1) (0, 0)).1) (((X.getD j []).getD (m - 1) (0, 0)).2) (((X.getD j []).getD m (0, 0)).1) (((X.getD j []).getD m (0, 0)).2)) == 0) (fun h5 => ?_) (fun h5 => ?_)
          · have h5p : (((Sp.meetN (((X.getD u []).getD (k - 1) (0, 0)).1) (((X.getD u []).getD (k - 1) (0, 0)).2) (((X.getD u []).getD k (0, 0)).1) (((X.getD u []).getD k (0, 0)).2) (((X.getD j []).getD (m - 1) (0, 0)).1) (((X.getD j []).getD (m - 1) (0, 0)).2) (((X.getD j []).getD m (0, 0)).1) (((X.getD j []).getD m (0, 0)).2)) = 0)) := by first | (simpa using h5) | (have h5q := h5; simp at h5q; omega) | (have h5q := bx1 h5; simp at h5q; omega)
            refine aw_sk ?_
            refine block_normal ?_
            refine block_normal ?_
            refine then_normal ?_
            refine aw_p1 (
              .a 1 5 <| .p (does_i (((m : Nat) : Int) + 1) (wrap_i64 (by omega) (by omega)) .i64) <| .a 1 5 <| .nil _ _) ?_
            refine then_normal ?_
            refine al_wF [(0, .slice (some ⟨0, 0, none⟩) X.length 0), (1, .int .i64 ((u : Nat) : Int)), (2, .int .i64 ((k : Nat) : Int)), (7, .pointer (some ⟨1, 0, none⟩)), (8, .pointer (some ⟨2, 0, none⟩)), (9, .int .i64 ((j : Nat) : Int)), (10, .slice (some ⟨(j + 200), 0, none⟩) ((X.getD j []).length) 0), (11, .int .i64 ((k : Nat) : Int)), (12, .int .i64 (((m + 1) : Nat) : Int)), (37, .slice (some ⟨0, 0, none⟩) (u + 1) 0), (38, .int .i64 ((u + 1 : Nat) : Int)), (39, .int .i64 ((j : Nat) : Int))] [(0, ⟨(hds (· + 200) X), 24, false, 1⟩), (1, ⟨[.int .i64 (((X.getD u []).getD (k - 1) (0, 0)).1), .int .i64 (((X.getD u []).getD (k - 1) (0, 0)).2)], 29, true, 2⟩), (2, ⟨[.int .i64 (((X.getD u []).getD k (0, 0)).1), .int .i64 (((X.getD u []).getD k (0, 0)).2)], 29, true, 2⟩)] (famR 29 X) ⟨(hds_cl _ _ _), (by kernel_rfl), (by kernel_rfl), trivial⟩ (famR_flat _ _) ?_
            exact ih2 (m + 1) (show (1 ≤ (m + 1) ∧ (m + 1) ≤ k) ∧ (Sp.freeR (X.getD u []) k true (X.getD j []) (m + 1) = true) from ⟨by omega, by (exact Sp.freeR_next hB (by first | exact Sp.perm_0 (by assumption) | exact Sp.perm_1 (by assumption) (by omega) | exact Sp.perm_e (by assumption) (by assumption) | (exfalso; omega)))⟩) (show k - (m + 1) < k - m from by omega)
          · have h5p : ¬ (((Sp.meetN (((X.getD u []).getD (k - 1) (0, 0)).1) (((X.getD u []).getD (k - 1) (0, 0)).2) (((X.getD u []).getD k (0, 0)).1) (((X.getD u []).getD k (0, 0)).2) (((X.getD j []).getD (m - 1) (0, 0)).1) (((X.getD j []).getD (m - 1) (0, 0)).2) (((X.getD j []).getD m (0, 0)).1) (((X.getD j []).getD m (0, 0)).2)) = 0)) := by first | (simpa using h5) | (have h5q := h5; simp at h5q; omega) | (have h5q := bx2 h5; simp at h5q; omega)
            rcases Bool.eq_false_or_eq_true ((Sp.meetN (((X.getD u []).getD (k - 1) (0, 0)).1) (((X.getD u []).getD (k - 1) (0, 0)).2) (((X.getD u []).getD k (0, 0)).1) (((X.getD u []).getD k (0, 0)).2) (((X.getD j []).getD (m - 1) (0, 0)).1) (((X.getD j []).getD (m - 1) (0, 0)).2) (((X.getD j []).getD m (0, 0)).1) (((X.getD j []).getD m (0, 0)).2)) == 1) with h6 | h6
            · have h6p : (((Sp.meetN (((X.getD u []).getD (k - 1) (0, 0)).1) (((X.getD u []).getD (k - 1) (0, 0)).2) (((X.getD u []).getD k (0, 0)).1) (((X.getD u []).getD k (0, 0)).2) (((X.getD j []).getD (m - 1) (0, 0)).1) (((X.getD j []).getD (m - 1) (0, 0)).2) (((X.getD j []).getD m (0, 0)).1) (((X.getD j []).getD m (0, 0)).2)) = 1)) := by first | (simpa using h6) | (have h6q := h6; simp at h6q; omega) | (have h6q := bx1 h6; simp at h6q; omega)
              rcases Bool.eq_false_or_eq_true (((j : Nat) : Int) == ((u : Nat) : Int)) with h7 | h7
              · have h7p : ((((j : Nat) : Int) = ((u : Nat) : Int))) := by first | (simpa using h7) | (have h7q := h7; simp at h7q; omega) | (have h7q := bx1 h7; simp at h7q; omega)
                refine aw_p 129957759 (
                  .a 1 5 <| .p (does_b true (h6)) <| .a 3 5 <| .p (does_b true (h7)) <| .a 4 5 <| .p (does_i (((k : Nat) : Int) - 1) (wrap_i64 (by omega) (by omega)) .i64) <| .a 3 5 <| .nil _ _) ?_
                refine aw_cd 259915518 259915519 (((m : Nat) : Int) == (((k : Nat) : Int) - 1)) (fun h8 => ?_) (fun h8 => ?_)
                · have h8p : ((((m : Nat) : Int) = (((k : Nat) : Int) - 1))) := by first | (simpa using h8) | (have h8q := h8; simp at h8q; omega) | (have h8q := bx1 h8; simp at h8q; omega)
                  refine aw_sk ?_
                  refine block_normal ?_
                  refine block_normal ?_
                  refine then_normal ?_
                  refine aw_p1 (
                    .a 1 5 <| .p (does_i (((m : Nat) : Int) + 1) (wrap_i64 (by omega) (by omega)) .i64) <| .a 1 5 <| .nil _ _) ?_
                  refine then_normal ?_
                  refine al_wF [(0, .slice (some ⟨0, 0, none⟩) X.length 0), (1, .int .i64 ((u : Nat) : Int)), (2, .int .i64 ((k : Nat) : Int)), (7, .pointer (some ⟨1, 0, none⟩)), (8, .pointer (some ⟨2, 0, none⟩)), (9, .int .i64 ((j : Nat) : Int)), (10, .slice (some ⟨(j + 200), 0, none⟩) ((X.getD j []).length) 0), (11, .int .i64 ((k : Nat) : Int)), (12, .int .i64 (((m + 1) : Nat) : Int)), (37, .slice (some ⟨0, 0, none⟩) (u + 1) 0), (38, .int .i64 ((u + 1 : Nat) : Int)), (39, .int .i64 ((j : Nat) : Int))] [(0, ⟨(hds (· + 200) X), 24, false, 1⟩), (1, ⟨[.int .i64 (((X.getD u []).getD (k - 1) (0, 0)).1), .int .i64 (((X.getD u []).getD (k - 1) (0, 0)).2)], 29, true, 2⟩), (2, ⟨[.int .i64 (((X.getD u []).getD k (0, 0)).1), .int .i64 (((X.getD u []).getD k (0, 0)).2)], 29, true, 2⟩)] (famR 29 X) ⟨(hds_cl _ _ _), (by kernel_rfl), (by kernel_rfl), trivial⟩ (famR_flat _ _) ?_
                  exact ih2 (m + 1) (show (1 ≤ (m + 1) ∧ (m + 1) ≤ k) ∧ (Sp.freeR (X.getD u []) k true (X.getD j []) (m + 1) = true) from ⟨by omega, by (exact Sp.freeR_next hB (by first | exact Sp.perm_0 (by assumption) | exact Sp.perm_1 (by assumption) (by omega) | exact Sp.perm_e (by assumption) (by assumption) | (exfalso; omega)))⟩) (show k - (m + 1) < k - m from by omega)
                · have h8p : ¬ ((((m : Nat) : Int) = (((k : Nat) : Int) - 1))) := by first | (simpa using h8) | (have h8q := h8; simp at h8q; omega) | (have h8q := bx2 h8; simp at h8q; omega)
                  refine aw_p 519831039 (
                    .a 1 5 <| .p (does_b true (h6)) <| .a 3 5 <|
                    .p (does_indexSlice (t := 36) (x := .tmp 90) (y := .tmp 91) (k := 0) (off := 0) (n := X.length) (c := 0) (z := 1) (kd := .i64) (j := ((u : Nat) : Int)) (by kernel_rfl) (by kernel_rfl) (by kernel_rfl) (by kernel_rfl) (by kernel_rfl) (by omega) (by omega)) <|
                    .p (does_load (t := 24) (x := .tmp 92) (k := 0) (off := (0 + (((u : Nat) : Int)).toNat * 1)) (b := ⟨(hds (· + 200) X), 24, false, 1⟩) (v := .slice (some ⟨(u + 200), 0, none⟩) ((X.getD u []).length) 0) (by kernel_rfl) (by kernel_rfl) (by kernel_rfl) (by rw [show (0 + (((u : Nat) : Int)).toNat * 1) = u from (by omega)]; exact ldV_hds (by kernel_rfl) (by kernel_rfl) (by omega))) <|
                    .a 3 5 <|
                    .p (does_ro [(u + 200), (j + 200)] #[.tmp 93, .tmp 94, .tmp 95, .tmp 96] #[24, 3, 24, 3] [.slice (some ⟨(u + 200), 0, none⟩) ((X.getD u []).length) 0, .int .i64 ((k : Nat) : Int), .slice (some ⟨(j + 200), 0, none⟩) ((X.getD j []).length) 0, .int .i64 ((m : Nat) : Int)] [(29, false), (29, false)] (ends_ok (X.getD u []) (X.getD j []) k m hk ⟨hm.1, by omega⟩ (by omega) (by omega)) (.cons (.slice _ _ _ _ _ (by decide)) (.cons (.flatB (by kernel_rfl)) (.cons (.slice _ _ _ _ _ (by decide)) (.cons (.flatB (by kernel_rfl)) .nil)))) ⟨⟨rfl, flats_pair _⟩, ⟨rfl, flats_pair _⟩, trivial⟩) <|
                    .a 2 5 <| .nil _ _) ?_
                  refine aw_cd 1039662078 1039662079 (Sp.endsB (X.getD u []) k (X.getD j []) m) (fun h9 => ?_) (fun h9 => ?_)
                  · refine aw_sk ?_
                    refine block_normal ?_
                    refine block_normal ?_
                    refine then_normal ?_
                    refine aw_p1 (
                      .a 1 5 <| .p (does_i (((m : Nat) : Int) + 1) (wrap_i64 (by omega) (by omega)) .i64) <| .a 1 5 <| .nil _ _) ?_
                    refine then_normal ?_
                    refine al_wF [(0, .slice (some ⟨0, 0, none⟩) X.length 0), (1, .int .i64 ((u : Nat) : Int)), (2, .int .i64 ((k : Nat) : Int)), (7, .pointer (some ⟨1, 0, none⟩)), (8, .pointer (some ⟨2, 0, none⟩)), (9, .int .i64 ((j : Nat) : Int)), (10, .slice (some ⟨(j + 200), 0, none⟩) ((X.getD j []).length) 0), (11, .int .i64 ((k : Nat) : Int)), (12, .int .i64 (((m + 1) : Nat) : Int)), (37, .slice (some ⟨0, 0, none⟩) (u + 1) 0), (38, .int .i64 ((u + 1 : Nat) : Int)), (39, .int .i64 ((j : Nat) : Int))] [(0, ⟨(hds (· + 200) X), 24, false, 1⟩), (1, ⟨[.int .i64 (((X.getD u []).getD (k - 1) (0, 0)).1), .int .i64 (((X.getD u []).getD (k - 1) (0, 0)).2)], 29, true, 2⟩), (2, ⟨[.int .i64 (((X.getD u []).getD k (0, 0)).1), .int .i64 (((X.getD u []).getD k (0, 0)).2)], 29, true, 2⟩)] (famR 29 X) ⟨(hds_cl _ _ _), (by kernel_rfl), (by kernel_rfl), trivial⟩ (famR_flat _ _) ?_
                    exact ih2 (m + 1) (show (1 ≤ (m + 1) ∧ (m + 1) ≤ k) ∧ (Sp.freeR (X.getD u []) k true (X.getD j []) (m + 1) = true) from ⟨by omega, by (exact Sp.freeR_next hB (by first | exact Sp.perm_0 (by assumption) | exact Sp.perm_1 (by assumption) (by omega) | exact Sp.perm_e (by assumption) (by assumption) | (exfalso; omega)))⟩) (show k - (m + 1) < k - m from by omega)
                  · refine aw_p 2079324159 (
                      .a 1 5 <| .nil _ _) ?_
                    refine aw_rt ?_
                    refine block_ret ?_
                    refine block_ret ?_
                    refine then_ret ?_
                    refine then_ret ?_
                    refine block_ret ?_
                    refine block_ret ?_
                    refine then_ret ?_
                    refine then_ret ?_
                    refine block_ret ?_
                    refine then_ret ?_
                    exact en_ret [.bool false] (show (.bool false : Value) = (.bool (Sp.freeB X u k)) from (congrArg Value.bool (show false = (Sp.freeB X u k) from by (first | exact (Sp.frB_eq (by assumption)).symm | exact (Sp.frB_no hjl (Sp.fro_y hji (Sp.freeR_bad hm.1 hml (by first | exact Sp.perm_n (by assumption) (by assumption) | exact Sp.perm_t (by assumption) (by omega) (by assumption))))).symm | exact (Sp.frB_no hjl (Sp.fro_n hji (Sp.freeR_bad hm.1 hml (by first | exact Sp.perm_n (by assumption) (by assumption) | exact Sp.perm_f (by assumption) (by assumption))))).symm | exact (Sp.frB_yes (by assumption) (by rw [hje] at hA; exact hA)).symm))))
              · have h7p : ¬ ((((j : Nat) : Int) = ((u : Nat) : Int))) := by first | (simpa using h7) | (have h7q := h7; simp at h7q; omega) | (have h7q := bx2 h7; simp at h7q; omega)
                refine aw_p 129957759 (
                  .a 1 5 <| .p (does_b true (h6)) <| .a 3 5 <| .p (does_b false (h7)) <| .a 8 5 <| .nil _ _) ?_
                refine aw_fl 259915519 ?_
                refine aw_p 519831039 (
                  .a 1 5 <| .p (does_b true (h6)) <| .a 3 5 <|
                  .p (does_indexSlice (t := 36) (x := .tmp 90) (y := .tmp 91) (k := 0) (off := 0) (n := X.length) (c := 0) (z := 1) (kd := .i64) (j := ((u : Nat) : Int)) (by kernel_rfl) (by kernel_rfl) (by kernel_rfl) (by kernel_rfl) (by kernel_rfl) (by omega) (by omega)) <|
                  .p (does_load (t := 24) (x := .tmp 92) (k := 0) (off := (0 + (((u : Nat) : Int)).toNat * 1)) (b := ⟨(hds (· + 200) X), 24, false, 1⟩) (v := .slice (some ⟨(u + 200), 0, none⟩) ((X.getD u []).length) 0) (by kernel_rfl) (by kernel_rfl) (by kernel_rfl) (by rw [show (0 + (((u : Nat) : Int)).toNat * 1) = u from (by omega)]; exact ldV_hds (by kernel_rfl) (by kernel_rfl) (by omega))) <|
                  .a 3 5 <|
                  .p (does_ro [(u + 200), (j + 200)] #[.tmp 93, .tmp 94, .tmp 95, .tmp 96] #[24, 3, 24, 3] [.slice (some ⟨(u + 200), 0, none⟩) ((X.getD u []).length) 0, .int .i64 ((k : Nat) : Int), .slice (some ⟨(j + 200), 0, none⟩) ((X.getD j []).length) 0, .int .i64 ((m : Nat) : Int)] [(29, false), (29, false)] (ends_ok (X.getD u []) (X.getD j []) k m hk ⟨hm.1, by omega⟩ (by omega) (by omega)) (.cons (.slice _ _ _ _ _ (by decide)) (.cons (.flatB (by kernel_rfl)) (.cons (.slice _ _ _ _ _ (by decide)) (.cons (.flatB (by kernel_rfl)) .nil)))) ⟨⟨rfl, flats_pair _⟩, ⟨rfl, flats_pair _⟩, trivial⟩) <|
                  .a 2 5 <| .nil _ _) ?_
                refine aw_cd 1039662078 1039662079 (Sp.endsB (X.getD u []) k (X.getD j []) m) (fun h10 => ?_) (fun h10 => ?_)
                · refine aw_sk ?_
                  refine block_normal ?_
                  refine block_normal ?_
                  refine then_normal ?_
                  refine aw_p1 (
                    .a 1 5 <| .p (does_i (((m : Nat) : Int) + 1) (wrap_i64 (by omega) (by omega)) .i64) <| .a 1 5 <| .nil _ _) ?_
                  refine then_normal ?_
                  refine al_wF [(0, .slice (some ⟨0, 0, none⟩) X.length 0), (1, .int .i64 ((u : Nat) : Int)), (2, .int .i64 ((k : Nat) : Int)), (7, .pointer (some ⟨1, 0, none⟩)), (8, .pointer (some ⟨2, 0, none⟩)), (9, .int .i64 ((j : Nat) : Int)), (10, .slice (some ⟨(j + 200), 0, none⟩) ((X.getD j []).length) 0), (11, .int .i64 ((k : Nat) : Int)), (12, .int .i64 (((m + 1) : Nat) : Int)), (37, .slice (some ⟨0, 0, none⟩) (u + 1) 0), (38, .int .i64 ((u + 1 : Nat) : Int)), (39, .int .i64 ((j : Nat) : Int))] [(0, ⟨(hds (· + 200) X), 24, false, 1⟩), (1, ⟨[.int .i64 (((X.getD u []).getD (k - 1) (0, 0)).1), .int .i64 (((X.getD u []).getD (k - 1) (0, 0)).2)], 29, true, 2⟩), (2, ⟨[.int .i64 (((X.getD u []).getD k (0, 0)).1), .int .i64 (((X.getD u []).getD k (0, 0)).2)], 29, true, 2⟩)] (famR 29 X) ⟨(hds_cl _ _ _), (by kernel_rfl), (by kernel_rfl), trivial⟩ (famR_flat _ _) ?_
                  exact ih2 (m + 1) (show (1 ≤ (m + 1) ∧ (m + 1) ≤ k) ∧ (Sp.freeR (X.getD u []) k true (X.getD j []) (m + 1) = true) from ⟨by omega, by (exact Sp.freeR_next hB (by first | exact Sp.perm_0 (by assumption) | exact Sp.perm_1 (by assumption) (by omega) | exact Sp.perm_e (by assumption) (by assumption) | (exfalso; omega)))⟩) (show k - (m + 1) < k - m from by omega)
                · refine aw_p 2079324159 (
                    .a 1 5 <| .nil _ _) ?_
                  refine aw_rt ?_
                  refine block_ret ?_
                  refine block_ret ?_
                  refine then_ret ?_
                  refine then_ret ?_
                  refine block_ret ?_
                  refine block_ret ?_
                  refine then_ret ?_
                  refine then_ret ?_
                  refine block_ret ?_
                  refine then_ret ?_
                  exact en_ret [.bool false] (show (.bool false : Value) = (.bool (Sp.freeB X u k)) from (congrArg Value.bool (show false = (Sp.freeB X u k) from by (first | exact (Sp.frB_eq (by assumption)).symm | exact (Sp.frB_no hjl (Sp.fro_y hji (Sp.freeR_bad hm.1 hml (by first | exact Sp.perm_n (by assumption) (by assumption) | exact Sp.perm_t (by assumption) (by omega) (by assumption))))).symm | exact (Sp.frB_no hjl (Sp.fro_n hji (Sp.freeR_bad hm.1 hml (by first | exact Sp.perm_n (by assumption) (by assumption) | exact Sp.perm_f (by assumption) (by assumption))))).symm | exact (Sp.frB_yes (by assumption) (by rw [hje] at hA; exact hA)).symm))))
            · have h6p : ¬ (((Sp.meetN (((X.getD u []).getD (k - 1) (0, 0)).1) (((X.getD u []).getD (k - 1) (0, 0)).2) (((X.getD u []).getD k (0, 0)).1) (((X.getD u []).getD k (0, 0)).2) (((X.getD j []).getD (m - 1) (0, 0)).1) (((X.getD j []).getD (m - 1) (0, 0)).2) (((X.getD j []).getD m (0, 0)).1) (((X.getD j []).getD m (0, 0)).2)) = 1)) := by first | (simpa using h6) | (have h6q := h6; simp at h6q; omega) | (have h6q := bx2 h6; simp at h6q; omega)
              refine aw_p 129957759 (
                .a 1 5 <| .p (does_b false (h6)) <| .a 12 5 <| .nil _ _) ?_
              refine aw_fl 259915519 ?_
              refine aw_p 519831039 (
                .a 1 5 <| .p (does_b false (h6)) <| .a 11 5 <| .nil _ _) ?_
              refine aw_fl 1039662079 ?_
              refine aw_p 2079324159 (
                .a 1 5 <| .nil _ _) ?_
              refine aw_rt ?_
              refine block_ret ?_
              refine block_ret ?_
              refine then_ret ?_
              refine then_ret ?_
              refine block_ret ?_
              refine block_ret ?_
              refine then_ret ?_
              refine then_ret ?_
              refine block_ret ?_
              refine then_ret ?_
              exact en_ret [.bool false] (show (.bool false : Value) = (.bool (Sp.freeB X u k)) from (congrArg Value.bool (show false = (Sp.freeB X u k) from by (first | exact (Sp.frB_eq (by assumption)).symm | exact (Sp.frB_no hjl (Sp.fro_y hji (Sp.freeR_bad hm.1 hml (by first | exact Sp.perm_n (by assumption) (by assumption) | exact Sp.perm_t (by assumption) (by omega) (by assumption))))).symm | exact (Sp.frB_no hjl (Sp.fro_n hji (Sp.freeR_bad hm.1 hml (by first | exact Sp.perm_n (by assumption) (by assumption) | exact Sp.perm_f (by assumption) (by assumption))))).symm | exact (Sp.frB_yes (by assumption) (by rw [hje] at hA; exact hA)).symm))))
        · have h4p : ¬ ((((m : Nat) : Int) < ((k : Nat) : Int))) := by first | (simpa using h4) | (have h4q := h4; simp at h4q; omega) | (have h4q := bx2 h4; simp at h4q; omega)
          have hme : m = k := by omega
          refine aw_ex 2 ?_
          refine then_exit ?_
          refine then_exit ?_
          refine block_exit ?_
          refine block_normal ?_
          refine then_normal ?_
          refine aw_p1 (
            .p (does_i (((j : Nat) : Int) + 1) (wrap_i64 (by omega) (by omega)) .i64) <| .a 1 3 <| .nil _ _) ?_
          refine then_normal ?_
          refine al_wF [(0, .slice (some ⟨0, 0, none⟩) X.length 0), (1, .int .i64 ((u : Nat) : Int)), (2, .int .i64 ((k : Nat) : Int)), (7, .pointer (some ⟨1, 0, none⟩)), (8, .pointer (some ⟨2, 0, none⟩)), (37, .slice (some ⟨0, 0, none⟩) (u + 1) 0), (38, .int .i64 ((u + 1 : Nat) : Int)), (39, .int .i64 (((j + 1) : Nat) : Int))] [(0, ⟨(hds (· + 200) X), 24, false, 1⟩), (1, ⟨[.int .i64 (((X.getD u []).getD (k - 1) (0, 0)).1), .int .i64 (((X.getD u []).getD (k - 1) (0, 0)).2)], 29, true, 2⟩), (2, ⟨[.int .i64 (((X.getD u []).getD k (0, 0)).1), .int .i64 (((X.getD u []).getD k (0, 0)).2)], 29, true, 2⟩)] (famR 29 X) ⟨(hds_cl _ _ _), (by kernel_rfl), (by kernel_rfl), trivial⟩ (famR_flat _ _) ?_
          exact ih1 (j + 1) (show ((j + 1) ≤ u + 1) ∧ ((List.range (j + 1)).all (Sp.fro X u k) = true) from ⟨by omega, by (exact Sp.all_next hA (by first | exact Sp.fro_y hji (by rw [hme] at hB; exact hB) | exact Sp.fro_n hji (by rw [hme] at hB; exact hB)))⟩) (show u + 1 - (j + 1) < u + 1 - j from by omega)
      · have h3p : ¬ ((((j : Nat) : Int) = ((u : Nat) : Int))) := by first | (simpa using h3) | (have h3q := h3; simp at h3q; omega) | (have h3q := bx2 h3; simp at h3q; omega)
        refine aw_sk ?_
        refine then_normal ?_
        refine aw_p 63455 (
          .a 1 3 <| .nil _ _) ?_
        refine aw_bl 2 126911 ?_
        have hji : j ≠ u := by omega
        have hlj : (X.getD j []).length ≤ (X.getD j []).length := Nat.le_refl _
        have zj := hz j (by omega)
        refine aw_lp 253823 ?_
        refine al_wF [(0, .slice (some ⟨0, 0, none⟩) X.length 0), (1, .int .i64 ((u : Nat) : Int)), (2, .int .i64 ((k : Nat) : Int)), (7, .pointer (some ⟨1, 0, none⟩)), (8, .pointer (some ⟨2, 0, none⟩)), (9, .int .i64 ((j : Nat) : Int)), (10, .slice (some ⟨(j + 200), 0, none⟩) ((X.getD j []).length) 0), (11, .int .i64 (((X.getD j []).length : Nat) : Int)), (12, .int .i64 ((1 : Nat) : Int)), (37, .slice (some ⟨0, 0, none⟩) (u + 1) 0), (38, .int .i64 ((u + 1 : Nat) : Int)), (39, .int .i64 ((j : Nat) : Int))] [(0, ⟨(hds (· + 200) X), 24, false, 1⟩), (1, ⟨[.int .i64 (((X.getD u []).getD (k - 1) (0, 0)).1), .int .i64 (((X.getD u []).getD (k - 1) (0, 0)).2)], 29, true, 2⟩), (2, ⟨[.int .i64 (((X.getD u []).getD k (0, 0)).1), .int .i64 (((X.getD u []).getD k (0, 0)).2)], 29, true, 2⟩)] (famR 29 X) ⟨(hds_cl _ _ _), (by kernel_rfl), (by kernel_rfl), trivial⟩ (famR_flat _ _) ?_
        refine al_ind (fun i : Nat => (fun (m : Nat) => mkF 1 [(0, .slice (some ⟨0, 0, none⟩) X.length 0), (1, .int .i64 ((u : Nat) : Int)), (2, .int .i64 ((k : Nat) : Int)), (7, .pointer (some ⟨1, 0, none⟩)), (8, .pointer (some ⟨2, 0, none⟩)), (9, .int .i64 ((j : Nat) : Int)), (10, .slice (some ⟨(j + 200), 0, none⟩) ((X.getD j []).length) 0), (11, .int .i64 (((X.getD j []).length : Nat) : Int)), (12, .int .i64 ((m : Nat) : Int)), (37, .slice (some ⟨0, 0, none⟩) (u + 1) 0), (38, .int .i64 ((u + 1 : Nat) : Int)), (39, .int .i64 ((j : Nat) : Int))] [(0, ⟨(hds (· + 200) X), 24, false, 1⟩), (1, ⟨[.int .i64 (((X.getD u []).getD (k - 1) (0, 0)).1), .int .i64 (((X.getD u []).getD (k - 1) (0, 0)).2)], 29, true, 2⟩), (2, ⟨[.int .i64 (((X.getD u []).getD k (0, 0)).1), .int .i64 (((X.getD u []).getD k (0, 0)).2)], 29, true, 2⟩)] (famR 29 X)) i) (fun i : Nat => (fun (m : Nat) => (1 ≤ m ∧ m ≤ (X.getD j []).length) ∧ (Sp.freeR (X.getD u []) k false (X.getD j []) m = true)) i) (fun i : Nat => (fun (m : Nat) => ((X.getD j []).length) - m) i) (fun i hi3 ih3 => ?_) 1 (show (1 ≤ 1 ∧ 1 ≤ (X.getD j []).length) ∧ (Sp.freeR (X.getD u []) k false (X.getD j []) 1 = true) from ⟨by omega, by rfl⟩)
        obtain ⟨m, hv3⟩ : ∃ z, z = i := ⟨i, rfl⟩; subst hv3
        have hi3' : (1 ≤ m ∧ m ≤ (X.getD j []).length) ∧ (Sp.freeR (X.getD u []) k false (X.getD j []) m = true) := hi3
        obtain ⟨hm, hB⟩ := hi3'
        show AL _ _ _ (mkF 1 [(0, .slice (some ⟨0, 0, none⟩) X.length 0), (1, .int .i64 ((u : Nat) : Int)), (2, .int .i64 ((k : Nat) : Int)), (7, .pointer (some ⟨1, 0, none⟩)), (8, .pointer (some ⟨2, 0, none⟩)), (9, .int .i64 ((j : Nat) : Int)), (10, .slice (some ⟨(j + 200), 0, none⟩) ((X.getD j []).length) 0), (11, .int .i64 (((X.getD j []).length : Nat) : Int)), (12, .int .i64 ((m : Nat) : Int)), (37, .slice (some ⟨0, 0, none⟩) (u + 1) 0), (38, .int .i64 ((u + 1 : Nat) : Int)), (39, .int .i64 ((j : Nat) : Int))] [(0, ⟨(hds (· + 200) X), 24, false, 1⟩), (1, ⟨[.int .i64 (((X.getD u []).getD (k - 1) (0, 0)).1), .int .i64 (((X.getD u []).getD (k - 1) (0, 0)).2)], 29, true, 2⟩), (2, ⟨[.int .i64 (((X.getD u []).getD k (0, 0)).1), .int .i64 (((X.getD u []).getD k (0, 0)).2)], 29, true, 2⟩)] (famR 29 X)) _
        have g1 := hX j m; have g2 := hX j (m - 1)
        refine al_round ?_
        refine aw_sq 507646 507647 ?_
        refine aw_p 1015293 (
          .a 3 3 <| .nil _ _) ?_
        refine aw_cd 2030586 2030587 (decide (((m : Nat) : Int) < (((X.getD j []).length : Nat) : Int))) (fun h11 => ?_) (fun h11 => ?_)
        · have h11p : ((((m : Nat) : Int) < (((X.getD j []).length : Nat) : Int))) := by first | (simpa using h11) | (have h11q := h11; simp at h11q; omega) | (have h11q := bx1 h11; simp at h11q; omega)
          have hml : m < (X.getD j []).length := by omega
          refine aw_sk ?_
          refine then_normal ?_
          refine aw_sq 1015294 1015295 ?_
          refine aw_bl 3 2030589 ?_
          refine aw_d 4061179 (
            .a 2 3 <| .p (does_i ((m - 1 : Nat) : Int) ((show (IntKind.wrap .i64 (((m : Nat) : Int) - 1)) = ((m - 1 : Nat) : Int) from ((wrap_i64 (by omega) (by omega)).trans (by omega)))) .i64) <|
            .p (does_indexSlice (t := 24) (x := .tmp 55) (y := .tmp 57) (k := (j + 200)) (off := 0) (n := ((X.getD j []).length)) (c := 0) (z := 2) (kd := .i64) (j := ((m - 1 : Nat) : Int)) (by kernel_rfl) (by kernel_rfl) (by kernel_rfl) (by kernel_rfl) (by kernel_rfl) (by omega) (by omega)) <|
            .p (does_load (t := 29) (x := .tmp 58) (k := (j + 200)) (off := (0 + (((m - 1 : Nat) : Int)).toNat * 2)) (b := ⟨((X.getD j []).flatMap ptc), 29, false, 2⟩) (v := .agg #[.int .i64 (((X.getD j []).getD (m - 1) (0, 0)).1), .int .i64 (((X.getD j []).getD (m - 1) (0, 0)).2)]) (by kernel_rfl) (by kernel_rfl) (by kernel_rfl) (ldV_pair (j := (m - 1)) (by kernel_rfl) (by kernel_rfl) (by omega) (by omega))) <|
            .a 2 3 <| .p (does_indexSlice (t := 24) (x := .tmp 60) (y := .tmp 61) (k := (j + 200)) (off := 0) (n := ((X.getD j []).length)) (c := 0) (z := 2) (kd := .i64) (j := ((m : Nat) : Int)) (by kernel_rfl) (by kernel_rfl) (by kernel_rfl) (by kernel_rfl) (by kernel_rfl) (by omega) (by omega)) <|
            .p (does_load (t := 29) (x := .tmp 62) (k := (j + 200)) (off := (0 + (((m : Nat) : Int)).toNat * 2)) (b := ⟨((X.getD j []).flatMap ptc), 29, false, 2⟩) (v := .agg #[.int .i64 (((X.getD j []).getD m (0, 0)).1), .int .i64 (((X.getD j []).getD m (0, 0)).2)]) (by kernel_rfl) (by kernel_rfl) (by kernel_rfl) (ldV_pair (j := m) (by kernel_rfl) (by kernel_rfl) (by omega) (by omega))) <|
            .a 4 3 <| .nil _ _) ?_
          refine aw_p 8122359 (
            .a 4 5 <|
            .p (does_c (segmeet_in (((X.getD u []).getD (k - 1) (0, 0)).1) (((X.getD u []).getD (k - 1) (0, 0)).2) (((X.getD u []).getD k (0, 0)).1) (((X.getD u []).getD k (0, 0)).2) (((X.getD j []).getD (m - 1) (0, 0)).1) (((X.getD j []).getD (m - 1) (0, 0)).2) (((X.getD j []).getD m (0, 0)).1) (((X.getD j []).getD m (0, 0)).2) (by omega) (by omega) (by omega) (by omega) (by omega) (by omega) (by omega) (by omega) (by omega) (by omega) (by omega) (by omega) (by omega) (by omega) (by omega) (by omega))) <|
            .a 1 5 <| .nil _ _) ?_
          refine aw_bl 4 16244719 ?_
          refine aw_p 32489439 (
            .a 3 5 <| .nil _ _) ?_
          refine aw_cd 64978878 64978879 ((Sp.meetN (((X.getD u []).getD (k - 1) (0, 0)).1) (((X.getD u []).getD (k - 1) (0, 0)).2) (((X.getD u []).getD k (0, 0)).1) (((X.getD u []).getD k (0, 0)).2) (((X.getD j []).getD (m - 1) (0, 0)).1) (((X.getD j []).getD (m - 1) (0, 0)).2) (((X.getD j []).getD m (0, 0)).1) (((X.getD j []).getD m (0, 0)).2)) == 0) (fun h12 => ?_) (fun h12 => ?_)
          · have h12p : (((Sp.meetN (((X.getD u []).getD (k - 1) (0, 0)).1) (((X.getD u []).getD (k - 1) (0, 0)).2) (((X.getD u []).getD k (0, 0)).1) (((X.getD u []).getD k (0, 0)).2) (((X.getD j []).getD (m - 1) (0, 0)).1) (((X.getD j []).getD (m - 1) (0, 0)).2) (((X.getD j []).getD m (0, 0)).1) (((X.getD j []).getD m (0, 0)).2)) = 0)) := by first | (simpa using h12) | (have h12q := h12; simp at h12q; omega) | (have h12q := bx1 h12; simp at h12q; omega)
            refine aw_sk ?_
            refine block_normal ?_
            refine block_normal ?_
            refine then_normal ?_
            refine aw_p1 (
              .a 1 5 <| .p (does_i (((m : Nat) : Int) + 1) (wrap_i64 (by omega) (by omega)) .i64) <| .a 1 5 <| .nil _ _) ?_
            refine then_normal ?_
            refine al_wF [(0, .slice (some ⟨0, 0, none⟩) X.length 0), (1, .int .i64 ((u : Nat) : Int)), (2, .int .i64 ((k : Nat) : Int)), (7, .pointer (some ⟨1, 0, none⟩)), (8, .pointer (some ⟨2, 0, none⟩)), (9, .int .i64 ((j : Nat) : Int)), (10, .slice (some ⟨(j + 200), 0, none⟩) ((X.getD j []).length) 0), (11, .int .i64 (((X.getD j []).length : Nat) : Int)), (12, .int .i64 (((m + 1) : Nat) : Int)), (37, .slice (some ⟨0, 0, none⟩) (u + 1) 0), (38, .int .i64 ((u + 1 : Nat) : Int)), (39, .int .i64 ((j : Nat) : Int))] [(0, ⟨(hds (· + 200) X), 24, false, 1⟩), (1, ⟨[.int .i64 (((X.getD u []).getD (k - 1) (0, 0)).1), .int .i64 (((X.getD u []).getD (k - 1) (0, 0)).2)], 29, true, 2⟩), (2, ⟨[.int .i64 (((X.getD u []).getD k (0, 0)).1), .int .i64 (((X.getD u []).getD k (0, 0)).2)], 29, true, 2⟩)] (famR 29 X) ⟨(hds_cl _ _ _), (by kernel_rfl), (by kernel_rfl), trivial⟩ (famR_flat _ _) ?_
            exact ih3 (m + 1) (show (1 ≤ (m + 1) ∧ (m + 1) ≤ (X.getD j []).length) ∧ (Sp.freeR (X.getD u []) k false (X.getD j []) (m + 1) = true) from ⟨by omega, by (exact Sp.freeR_next hB (by first | exact Sp.perm_0 (by assumption) | exact Sp.perm_1 (by assumption) (by omega) | exact Sp.perm_e (by assumption) (by assumption) | (exfalso; omega)))⟩) (show ((X.getD j []).length) - (m + 1) < ((X.getD j []).length) - m from by omega)
          · have h12p : ¬ (((Sp.meetN (((X.getD u []).getD (k - 1) (0, 0)).1) (((X.getD u []).getD (k - 1) (0, 0)).2) (((X.getD u []).getD k (0, 0)).1) (((X.getD u []).getD k (0, 0)).2) (((X.getD j []).getD (m - 1) (0, 0)).1) (((X.getD j []).getD (m - 1) (0, 0)).2) (((X.getD j []).getD m (0, 0)).1) (((X.getD j []).getD m (0, 0)).2)) = 0)) := by first | (simpa using h12) | (have h12q := h12; simp at h12q; omega) | (have h12q := bx2 h12; simp at h12q; omega)
            rcases Bool.eq_false_or_eq_true ((Sp.meetN (((X.getD u []).getD (k - 1) (0, 0)).1) (((X.getD u []).getD (k - 1) (0, 0)).2) (((X.getD u []).getD k (0, 0)).1) (((X.getD u []).getD k (0, 0)).2) (((X.getD j []).getD (m - 1) (0, 0)).1) (((X.getD j []).getD (m - 1) (0, 0)).2) (((X.getD j []).getD m (0, 0)).1) (((X.getD j []).getD m (0, 0)).2)) == 1) with h13 | h13
            · have h13p : (((Sp.meetN (((X.getD u []).getD (k - 1) (0, 0)).1) (((X.getD u []).getD (k - 1) (0, 0)).2) (((X.getD u []).getD k (0, 0)).1) (((X.getD u []).getD k (0, 0)).2) (((X.getD j []).getD (m - 1) (0, 0)).1) (((X.getD j []).getD (m - 1) (0, 0)).2) (((X.getD j []).getD m (0, 0)).1) (((X.getD j []).getD m (0, 0)).2)) = 1)) := by first | (simpa using h13) | (have h13q := h13; simp at h13q; omega) | (have h13q := bx1 h13; simp at h13q; omega)
              rcases Bool.eq_false_or_eq_true (((j : Nat) : Int) == ((u : Nat) : Int)) with h14 | h14
              · have h14p : ((((j : Nat) : Int) = ((u : Nat) : Int))) := by first | (simpa using h14) | (have h14q := h14; simp at h14q; omega) | (have h14q := bx1 h14; simp at h14q; omega)
                refine aw_p 129957759 (
                  .a 1 5 <| .p (does_b true (h13)) <| .a 3 5 <| .p (does_b true (h14)) <| .a 4 5 <| .p (does_i (((k : Nat) : Int) - 1) (wrap_i64 (by omega) (by omega)) .i64) <| .a 3 5 <| .nil _ _) ?_
                refine aw_cd 259915518 259915519 (((m : Nat) : Int) == (((k : Nat) : Int) - 1)) (fun h15 => ?_) (fun h15 => ?_)
                · have h15p : ((((m : Nat) : Int) = (((k : Nat) : Int) - 1))) := by first | (simpa using h15) | (have h15q := h15; simp at h15q; omega) | (have h15q := bx1 h15; simp at h15q; omega)
                  refine aw_sk ?_
                  refine block_normal ?_
                  refine block_normal ?_
                  refine then_normal ?_
                  refine aw_p1 (
                    .a 1 5 <| .p (does_i (((m : Nat) : Int) + 1) (wrap_i64 (by omega) (by omega)) .i64) <| .a 1 5 <| .nil _ _) ?_
                  refine then_normal ?_
                  refine al_wF [(0, .slice (some ⟨0, 0, none⟩) X.length 0), (1, .int .i64 ((u : Nat) : Int)), (2, .int .i64 ((k : Nat) : Int)), (7, .pointer (some ⟨1, 0, none⟩)), (8, .pointer (some ⟨2, 0, none⟩)), (9, .int .i64 ((j : Nat) : Int)), (10, .slice (some ⟨(j + 200), 0, none⟩) ((X.getD j []).length) 0), (11, .int .i64 (((X.getD j []).length : Nat) : Int)), (12, .int .i64 (((m + 1) : Nat) : Int)), (37, .slice (some ⟨0, 0, none⟩) (u + 1) 0), (38, .int .i64 ((u + 1 : Nat) : Int)), (39, .int .i64 ((j : Nat) : Int))] [(0, ⟨(hds (· + 200) X), 24, false, 1⟩), (1, ⟨[.int .i64 (((X.getD u []).getD (k - 1) (0, 0)).1), .int .i64 (((X.getD u []).getD (k - 1) (0, 0)).2)], 29, true, 2⟩), (2, ⟨[.int .i64 (((X.getD u []).getD k (0, 0)).1), .int .i64 (((X.getD u []).getD k (0, 0)).2)], 29, true, 2⟩)] (famR 29 X) ⟨(hds_cl _ _ _), (by kernel_rfl), (by kernel_rfl), trivial⟩ (famR_flat _ _) ?_
                  exact ih3 (m + 1) (show (1 ≤ (m + 1) ∧ (m + 1) ≤ (X.getD j []).length) ∧ (Sp.freeR (X.getD u []) k false (X.getD j []) (m + 1) = true) from ⟨by omega, by (exact Sp.freeR_next hB (by first | exact Sp.perm_0 (by assumption) | exact Sp.perm_1 (by assumption) (by omega) | exact Sp.perm_e (by assumption) (by assumption) | (exfalso; omega)))⟩) (show ((X.getD j []).length) - (m + 1) < ((X.getD j []).length) - m from by omega)
                · have h15p : ¬ ((((m : Nat) : Int) = (((k : Nat) : Int) - 1))) := by first | (simpa using h15) | (have h15q := h15; simp at h15q; omega) | (have h15q := bx2 h15; simp at h15q; omega)
                  refine aw_p 519831039 (
                    .a 1 5 <| .p (does_b true (h13)) <| .a 3 5 <|
                    .p (does_indexSlice (t := 36) (x := .tmp 90) (y := .tmp 91) (k := 0) (off := 0) (n := X.length) (c := 0) (z := 1) (kd := .i64) (j := ((u : Nat) : Int)) (by kernel_rfl) (by kernel_rfl) (by kernel_rfl) (by kernel_rfl) (by kernel_rfl) (by omega) (by omega)) <|
                    .p (does_load (t := 24) (x := .tmp 92) (k := 0) (off := (0 + (((u : Nat) : Int)).toNat * 1)) (b := ⟨(hds (· + 200) X), 24, false, 1⟩) (v := .slice (some ⟨(u + 200), 0, none⟩) ((X.getD u []).length) 0) (by kernel_rfl) (by kernel_rfl) (by kernel_rfl) (by rw [show (0 + (((u : Nat) : Int)).toNat * 1) = u from (by omega)]; exact ldV_hds (by kernel_rfl) (by kernel_rfl) (by omega))) <|
                    .a 3 5 <|
                    .p (does_ro [(u + 200), (j + 200)] #[.tmp 93, .tmp 94, .tmp 95, .tmp 96] #[24, 3, 24, 3] [.slice (some ⟨(u + 200), 0, none⟩) ((X.getD u []).length) 0, .int .i64 ((k : Nat) : Int), .slice (some ⟨(j + 200), 0, none⟩) ((X.getD j []).length) 0, .int .i64 ((m : Nat) : Int)] [(29, false), (29, false)] (ends_ok (X.getD u []) (X.getD j []) k m hk ⟨hm.1, by omega⟩ (by omega) (by omega)) (.cons (.slice _ _ _ _ _ (by decide)) (.cons (.flatB (by kernel_rfl)) (.cons (.slice _ _ _ _ _ (by decide)) (.cons (.flatB (by kernel_rfl)) .nil)))) ⟨⟨rfl, flats_pair _⟩, ⟨rfl, flats_pair _⟩, trivial⟩) <|
                    .a 2 5 <| .nil _ _) ?_
                  refine aw_cd 1039662078 1039662079 (Sp.endsB (X.getD u []) k (X.getD j []) m) (fun h16 => ?_) (fun h16 => ?_)
                  · refine aw_sk ?_
                    refine block_normal ?_
                    refine block_normal ?_
                    refine then_normal ?_
                    refine aw_p1 (
                      .a 1 5 <| .p (does_i (((m : Nat) : Int) + 1) (wrap_i64 (by omega) (by omega)) .i64) <| .a 1 5 <| .nil _ _) ?_
                    refine then_normal ?_
                    refine al_wF [(0, .slice (some ⟨0, 0, none⟩) X.length 0), (1, .int .i64 ((u : Nat) : Int)), (2, .int .i64 ((k : Nat) : Int)), (7, .pointer (some ⟨1, 0, none⟩)), (8, .pointer (some ⟨2, 0, none⟩)), (9, .int .i64 ((j : Nat) : Int)), (10, .slice (some ⟨(j + 200), 0, none⟩) ((X.getD j []).length) 0), (11, .int .i64 (((X.getD j []).length : Nat) : Int)), (12, .int .i64 (((m + 1) : Nat) : Int)), (37, .slice (some ⟨0, 0, none⟩) (u + 1) 0), (38, .int .i64 ((u + 1 : Nat) : Int)), (39, .int .i64 ((j : Nat) : Int))] [(0, ⟨(hds (· + 200) X), 24, false, 1⟩), (1, ⟨[.int .i64 (((X.getD u []).getD (k - 1) (0, 0)).1), .int .i64 (((X.getD u []).getD (k - 1) (0, 0)).2)], 29, true, 2⟩), (2, ⟨[.int .i64 (((X.getD u []).getD k (0, 0)).1), .int .i64 (((X.getD u []).getD k (0, 0)).2)], 29, true, 2⟩)] (famR 29 X) ⟨(hds_cl _ _ _), (by kernel_rfl), (by kernel_rfl), trivial⟩ (famR_flat _ _) ?_
                    exact ih3 (m + 1) (show (1 ≤ (m + 1) ∧ (m + 1) ≤ (X.getD j []).length) ∧ (Sp.freeR (X.getD u []) k false (X.getD j []) (m + 1) = true) from ⟨by omega, by (exact Sp.freeR_next hB (by first | exact Sp.perm_0 (by assumption) | exact Sp.perm_1 (by assumption) (by omega) | exact Sp.perm_e (by assumption) (by assumption) | (exfalso; omega)))⟩) (show ((X.getD j []).length) - (m + 1) < ((X.getD j []).length) - m from by omega)
                  · refine aw_p 2079324159 (
                      .a 1 5 <| .nil _ _) ?_
                    refine aw_rt ?_
                    refine block_ret ?_
                    refine block_ret ?_
                    refine then_ret ?_
                    refine then_ret ?_
                    refine block_ret ?_
                    refine block_ret ?_
                    refine then_ret ?_
                    refine then_ret ?_
                    refine block_ret ?_
                    refine then_ret ?_
                    exact en_ret [.bool false] (show (.bool false : Value) = (.bool (Sp.freeB X u k)) from (congrArg Value.bool (show false = (Sp.freeB X u k) from by (first | exact (Sp.frB_eq (by assumption)).symm | exact (Sp.frB_no hjl (Sp.fro_y hji (Sp.freeR_bad hm.1 hml (by first | exact Sp.perm_n (by assumption) (by assumption) | exact Sp.perm_t (by assumption) (by omega) (by assumption))))).symm | exact (Sp.frB_no hjl (Sp.fro_n hji (Sp.freeR_bad hm.1 hml (by first | exact Sp.perm_n (by assumption) (by assumption) | exact Sp.perm_f (by assumption) (by assumption))))).symm | exact (Sp.frB_yes (by assumption) (by rw [hje] at hA; exact hA)).symm))))
              · have h14p : ¬ ((((j : Nat) : Int) = ((u : Nat) : Int))) := by first | (simpa using h14) | (have h14q := h14; simp at h14q; omega) | (have h14q := bx2 h14; simp at h14q; omega)
                refine aw_p 129957759 (
                  .a 1 5 <| .p (does_b true (h13)) <| .a 3 5 <| .p (does_b false (h14)) <| .a 8 5 <| .nil _ _) ?_
                refine aw_fl 259915519 ?_
                refine aw_p 519831039 (
                  .a 1 5 <| .p (does_b true (h13)) <| .a 3 5 <|
                  .p (does_indexSlice (t := 36) (x := .tmp 90) (y := .tmp 91) (k := 0) (off := 0) (n := X.length) (c := 0) (z := 1) (kd := .i64) (j := ((u : Nat) : Int)) (by kernel_rfl) (by kernel_rfl) (by kernel_rfl) (by kernel_rfl) (by kernel_rfl) (by omega) (by omega)) <|
                  .p (does_load (t := 24) (x := .tmp 92) (k := 0) (off := (0 + (((u : Nat) : Int)).toNat * 1)) (b := ⟨(hds (· + 200) X), 24, false, 1⟩) (v := .slice (some ⟨(u + 200), 0, none⟩) ((X.getD u []).length) 0) (by kernel_rfl) (by kernel_rfl) (by kernel_rfl) (by rw [show (0 + (((u : Nat) : Int)).toNat * 1) = u from (by omega)]; exact ldV_hds (by kernel_rfl) (by kernel_rfl) (by omega))) <|
                  .a 3 5 <|
                  .p (does_ro [(u + 200), (j + 200)] #[.tmp 93, .tmp 94, .tmp 95, .tmp 96] #[24, 3, 24, 3] [.slice (some ⟨(u + 200), 0, none⟩) ((X.getD u []).length) 0, .int .i64 ((k : Nat) : Int), .slice (some ⟨(j + 200), 0, none⟩) ((X.getD j []).length) 0, .int .i64 ((m : Nat) : Int)] [(29, false), (29, false)] (ends_ok (X.getD u []) (X.getD j []) k m hk ⟨hm.1, by omega⟩ (by omega) (by omega)) (.cons (.slice _ _ _ _ _ (by decide)) (.cons (.flatB (by kernel_rfl)) (.cons (.slice _ _ _ _ _ (by decide)) (.cons (.flatB (by kernel_rfl)) .nil)))) ⟨⟨rfl, flats_pair _⟩, ⟨rfl, flats_pair _⟩, trivial⟩) <|
                  .a 2 5 <| .nil _ _) ?_
                refine aw_cd 1039662078 1039662079 (Sp.endsB (X.getD u []) k (X.getD j []) m) (fun h17 => ?_) (fun h17 => ?_)
                · refine aw_sk ?_
                  refine block_normal ?_
                  refine block_normal ?_
                  refine then_normal ?_
                  refine aw_p1 (
                    .a 1 5 <| .p (does_i (((m : Nat) : Int) + 1) (wrap_i64 (by omega) (by omega)) .i64) <| .a 1 5 <| .nil _ _) ?_
                  refine then_normal ?_
                  refine al_wF [(0, .slice (some ⟨0, 0, none⟩) X.length 0), (1, .int .i64 ((u : Nat) : Int)), (2, .int .i64 ((k : Nat) : Int)), (7, .pointer (some ⟨1, 0, none⟩)), (8, .pointer (some ⟨2, 0, none⟩)), (9, .int .i64 ((j : Nat) : Int)), (10, .slice (some ⟨(j + 200), 0, none⟩) ((X.getD j []).length) 0), (11, .int .i64 (((X.getD j []).length : Nat) : Int)), (12, .int .i64 (((m + 1) : Nat) : Int)), (37, .slice (some ⟨0, 0, none⟩) (u + 1) 0), (38, .int .i64 ((u + 1 : Nat) : Int)), (39, .int .i64 ((j : Nat) : Int))] [(0, ⟨(hds (· + 200) X), 24, false, 1⟩), (1, ⟨[.int .i64 (((X.getD u []).getD (k - 1) (0, 0)).1), .int .i64 (((X.getD u []).getD (k - 1) (0, 0)).2)], 29, true, 2⟩), (2, ⟨[.int .i64 (((X.getD u []).getD k (0, 0)).1), .int .i64 (((X.getD u []).getD k (0, 0)).2)], 29, true, 2⟩)] (famR 29 X) ⟨(hds_cl _ _ _), (by kernel_rfl), (by kernel_rfl), trivial⟩ (famR_flat _ _) ?_
                  exact ih3 (m + 1) (show (1 ≤ (m + 1) ∧ (m + 1) ≤ (X.getD j []).length) ∧ (Sp.freeR (X.getD u []) k false (X.getD j []) (m + 1) = true) from ⟨by omega, by (exact Sp.freeR_next hB (by first | exact Sp.perm_0 (by assumption) | exact Sp.perm_1 (by assumption) (by omega) | exact Sp.perm_e (by assumption) (by assumption) | (exfalso; omega)))⟩) (show ((X.getD j []).length) - (m + 1) < ((X.getD j []).length) - m from by omega)
                · refine aw_p 2079324159 (
                    .a 1 5 <| .nil _ _) ?_
                  refine aw_rt ?_
                  refine block_ret ?_
                  refine block_ret ?_
                  refine then_ret ?_
                  refine then_ret ?_
                  refine block_ret ?_
                  refine block_ret ?_
                  refine then_ret ?_
                  refine then_ret ?_
                  refine block_ret ?_
                  refine then_ret ?_
                  exact en_ret [.bool false] (show (.bool false : Value) = (.bool (Sp.freeB X u k)) from (congrArg Value.bool (show false = (Sp.freeB X u k) from by (first | exact (Sp.frB_eq (by assumption)).symm | exact (Sp.frB_no hjl (Sp.fro_y hji (Sp.freeR_bad hm.1 hml (by first | exact Sp.perm_n (by assumption) (by assumption) | exact Sp.perm_t (by assumption) (by omega) (by assumption))))).symm | exact (Sp.frB_no hjl (Sp.fro_n hji (Sp.freeR_bad hm.1 hml (by first | exact Sp.perm_n (by assumption) (by assumption) | exact Sp.perm_f (by assumption) (by assumption))))).symm | exact (Sp.frB_yes (by assumption) (by rw [hje] at hA; exact hA)).symm))))
            · have h13p : ¬ (((Sp.meetN (((X.getD u []).getD (k - 1) (0, 0)).1) (((X.getD u []).getD (k - 1) (0, 0)).2) (((X.getD u []).getD k (0, 0)).1) (((X.getD u []).getD k (0, 0)).2) (((X.getD j []).getD (m - 1) (0, 0)).1) (((X.getD j []).getD (m - 1) (0, 0)).2) (((X.getD j []).getD m (0, 0)).1) (((X.getD j []).getD m (0, 0)).2)) = 1)) := by first | (simpa using h13) | (have h13q := h13; simp at h13q; omega) | (have h13q := bx2 h13; simp at h13q; omega)
              refine aw_p 129957759 (
                .a 1 5 <| .p (does_b false (h13)) <| .a 12 5 <| .nil _ _) ?_
              refine aw_fl 259915519 ?_
              refine aw_p 519831039 (
                .a 1 5 <| .p (does_b false (h13)) <| .a 11 5 <| .nil _ _) ?_
              refine aw_fl 1039662079 ?_
              refine aw_p 2079324159 (
                .a 1 5 <| .nil _ _) ?_
              refine aw_rt ?_
              refine block_ret ?_
              refine block_ret ?_
              refine then_ret ?_
              refine then_ret ?_
              refine block_ret ?_
              refine block_ret ?_
              refine then_ret ?_
              refine then_ret ?_
              refine block_ret ?_
              refine then_ret ?_
              exact en_ret [.bool false] (show (.bool false : Value) = (.bool (Sp.freeB X u k)) from (congrArg Value.bool (show false = (Sp.freeB X u k) from by (first | exact (Sp.frB_eq (by assumption)).symm | exact (Sp.frB_no hjl (Sp.fro_y hji (Sp.freeR_bad hm.1 hml (by first | exact Sp.perm_n (by assumption) (by assumption) | exact Sp.perm_t (by assumption) (by omega) (by assumption))))).symm | exact (Sp.frB_no hjl (Sp.fro_n hji (Sp.freeR_bad hm.1 hml (by first | exact Sp.perm_n (by assumption) (by assumption) | exact Sp.perm_f (by assumption) (by assumption))))).symm | exact (Sp.frB_yes (by assumption) (by rw [hje] at hA; exact hA)).symm))))
        · have h11p : ¬ ((((m : Nat) : Int) < (((X.getD j []).length : Nat) : Int))) := by first | (simpa using h11) | (have h11q := h11; simp at h11q; omega) | (have h11q := bx2 h11; simp at h11q; omega)
          have hme : m = (X.getD j []).length := by omega
          refine aw_ex 2 ?_
          refine then_exit ?_
          refine then_exit ?_
          refine block_exit ?_
          refine block_normal ?_
          refine then_normal ?_
          refine aw_p1 (
            .p (does_i (((j : Nat) : Int) + 1) (wrap_i64 (by omega) (by omega)) .i64) <| .a 1 3 <| .nil _ _) ?_
          refine then_normal ?_
          refine al_wF [(0, .slice (some ⟨0, 0, none⟩) X.length 0), (1, .int .i64 ((u : Nat) : Int)), (2, .int .i64 ((k : Nat) : Int)), (7, .pointer (some ⟨1, 0, none⟩)), (8, .pointer (some ⟨2, 0, none⟩)), (37, .slice (some ⟨0, 0, none⟩) (u + 1) 0), (38, .int .i64 ((u + 1 : Nat) : Int)), (39, .int .i64 (((j + 1) : Nat) : Int))] [(0, ⟨(hds (· + 200) X), 24, false, 1⟩), (1, ⟨[.int .i64 (((X.getD u []).getD (k - 1) (0, 0)).1), .int .i64 (((X.getD u []).getD (k - 1) (0, 0)).2)], 29, true, 2⟩), (2, ⟨[.int .i64 (((X.getD u []).getD k (0, 0)).1), .int .i64 (((X.getD u []).getD k (0, 0)).2)], 29, true, 2⟩)] (famR 29 X) ⟨(hds_cl _ _ _), (by kernel_rfl), (by kernel_rfl), trivial⟩ (famR_flat _ _) ?_
          exact ih1 (j + 1) (show ((j + 1) ≤ u + 1) ∧ ((List.range (j + 1)).all (Sp.fro X u k) = true) from ⟨by omega, by (exact Sp.all_next hA (by first | exact Sp.fro_y hji (by rw [hme] at hB; exact hB) | exact Sp.fro_n hji (by rw [hme] at hB; exact hB)))⟩) (show u + 1 - (j + 1) < u + 1 - j from by omega)
    · have h2p : ¬ ((((j : Nat) : Int) < ((u + 1 : Nat) : Int))) := by first | (simpa using h2) | (have h2q := h2; simp at h2q; omega) | (have h2q := bx2 h2; simp at h2q; omega)
      have hje : j = u + 1 := by omega
      refine aw_ex 0 ?_
      refine then_exit ?_
      refine then_exit ?_
      refine block_exit ?_
      refine then_normal ?_
      refine aw_p 63 (
        .a 1 3 <| .nil _ _) ?_
      refine aw_rt ?_
      exact en_ret [.bool true] (show (.bool true : Value) = (.bool (Sp.freeB X u k)) from (congrArg Value.bool (show true = (Sp.freeB X u k) from by (first | exact (Sp.frB_eq (by assumption)).symm | exact (Sp.frB_no hjl (Sp.fro_y hji (Sp.freeR_bad hm.1 hml (by first | exact Sp.perm_n (by assumption) (by assumption) | exact Sp.perm_t (by assumption) (by omega) (by assumption))))).symm | exact (Sp.frB_no hjl (Sp.fro_n hji (Sp.freeR_bad hm.1 hml (by first | exact Sp.perm_n (by assumption) (by assumption) | exact Sp.perm_f (by assumption) (by assumption))))).symm | exact (Sp.frB_yes (by assumption) (by rw [hje] at hA; exact hA)).symm))))
end Go.Proofs.Ytadifmimefmcnaa.Am

namespace Go.Proofs.Ytadifmimefmcnaa.Am
open Go Go.Proofs
set_option maxRecDepth 100000
set_option maxHeartbeats 4000000
set_option linter.unusedVariables false
set_option linter.unusedSimpArgs false
theorem notok_ok (x y : Int) :
    AC Try.prog 63 0 ([.agg #[.int .i64 x, .int .i64 y]]) [] (.bool (Sp.nok (x, y))) [] := by
  refine ac_in Try.func63 (fun w0 W pin => ?_)
  refine aw_p 3 (
    .a 2 1 <| .nil _ _) ?_
  refine aw_p 7 (
    .a 1 2 <| .p (does_c (pok_ok x y)) <| .a 2 2 <| .nil _ _) ?_
  refine aw_rt ?_
  exact en_ret [.bool (!((x == (Sp.lim 1048576 x)) && ((y == (Sp.lim 1048576 y)) && true)))] (show (.bool (!((x == (Sp.lim 1048576 x)) && ((y == (Sp.lim 1048576 y)) && true))) : Value) = (.bool (Sp.nok (x, y))) from (congrArg Value.bool (show (!((x == (Sp.lim 1048576 x)) && ((y == (Sp.lim 1048576 y)) && true))) = (Sp.nok (x, y)) from by rfl)))
theorem ixf_nok_ro (ps : List (Int × Int)) (hz : ps.length ≤ 9223372036854775807) :
    AC Try.prog 58 1 ([.slice (some ⟨0, 0, none⟩) ps.length 0, .func (.func 63) #[] #[]]) [(0, ⟨(ps.flatMap ptc), 29, false, 2⟩)] (.int .i64 (Sp.ixF Sp.nok ps 0)) [] := by
  refine ac_in Try.func58 (fun w0 W pin => ?_)
  refine aw_p 3 (
    .a 1 1 <| .nil _ _) ?_
  refine aw_sq 6 7 ?_
  refine aw_p 13 (
    .a 3 1 <| .nil _ _) ?_
  refine aw_bl 0 27 ?_
  refine aw_lp 55 ?_
  refine al_w [(0, .slice (some ⟨0, 0, none⟩) ps.length 0), (1, .func (.func 63) #[] #[]), (7, .int .i64 ((ps.length : Nat) : Int)), (8, .int .i64 ((0 : Nat) : Int))] [(0, ⟨(ps.flatMap ptc), 29, false, 2⟩)] ?_ (hc := (by simp [closedB, valsB, valB, List.all_eq_true, List.mem_flatMap, List.mem_range, List.mem_map, i64v, ptc, flat1]; try (intros; simp [valsB, valB, flat1]); try decide))
  refine al_ind (fun i : Nat => (fun (i : Nat) => mkSt 1 [(0, .slice (some ⟨0, 0, none⟩) ps.length 0), (1, .func (.func 63) #[] #[]), (7, .int .i64 ((ps.length : Nat) : Int)), (8, .int .i64 ((i : Nat) : Int))] [(0, ⟨(ps.flatMap ptc), 29, false, 2⟩)]) i) (fun i : Nat => (fun (i : Nat) => (i ≤ ps.length) ∧ (Sp.ixF Sp.nok ps i = Sp.ixF Sp.nok ps 0)) i) (fun i : Nat => (fun (i : Nat) => ps.length - i) i) (fun i hi1 ih1 => ?_) 0 (show (0 ≤ ps.length) ∧ (Sp.ixF Sp.nok ps 0 = Sp.ixF Sp.nok ps 0) from ⟨by omega, by rfl⟩)
  obtain ⟨i, hv1⟩ : ∃ z, z = i := ⟨i, rfl⟩; subst hv1
  have hi1' : (i ≤ ps.length) ∧ (Sp.ixF Sp.nok ps i = Sp.ixF Sp.nok ps 0) := hi1
  obtain ⟨hi, hh⟩ := hi1'
  show AL _ _ _ (mkSt 1 [(0, .slice (some ⟨0, 0, none⟩) ps.length 0), (1, .func (.func 63) #[] #[]), (7, .int .i64 ((ps.length : Nat) : Int)), (8, .int .i64 ((i : Nat) : Int))] [(0, ⟨(ps.flatMap ptc), 29, false, 2⟩)]) _
  refine al_round ?_
  refine aw_p 111 (
    .a 1 1 <| .nil _ _) ?_
  refine aw_sq 222 223 ?_
  refine aw_cd 444 445 (decide (((i : Nat) : Int) < ((ps.length : Nat) : Int))) (fun h1 => ?_) (fun h1 => ?_)
  · have h1p : ((((i : Nat) : Int) < ((ps.length : Nat) : Int))) := by first | (simpa using h1) | (have h1q := h1; simp at h1q; omega) | (have h1q := bx1 h1; simp at h1q; omega)
    have hil : i < ps.length := by omega
    refine aw_sk ?_
    refine then_normal ?_
    refine aw_sq 446 447 ?_
    refine aw_bl 1 893 ?_
    refine aw_p 1787 (
      .a 2 1 <| .nil _ _) ?_
    refine aw_p 3575 (
      .a 3 1 <| .p (does_indexSlice (t := 24) (x := .tmp 12) (y := .tmp 13) (k := 0) (off := 0) (n := ps.length) (c := 0) (z := 2) (kd := .i64) (j := ((i : Nat) : Int)) (by kernel_rfl) (by kernel_rfl) (by kernel_rfl) (by kernel_rfl) (by kernel_rfl) (by omega) (by omega)) <|
      .p (does_load (t := 29) (x := .tmp 14) (k := 0) (off := (0 + (((i : Nat) : Int)).toNat * 2)) (b := ⟨(ps.flatMap ptc), 29, false, 2⟩) (v := .agg #[.int .i64 ((ps.getD i (0, 0)).1), .int .i64 ((ps.getD i (0, 0)).2)]) (by kernel_rfl) (by kernel_rfl) (by kernel_rfl) (ldV_pair (j := i) (by kernel_rfl) (by kernel_rfl) (by omega) (by omega))) <|
      .p (does_c (notok_ok ((ps.getD i (0, 0)).1) ((ps.getD i (0, 0)).2))) <| .nil _ _) ?_
    refine aw_cd 7150 7151 (Sp.nok ((ps.getD i (0, 0)).1, (ps.getD i (0, 0)).2)) (fun h2 => ?_) (fun h2 => ?_)
    · refine aw_p 14301 (
        .a 2 1 <| .nil _ _) ?_
      refine aw_rt ?_
      refine block_ret ?_
      refine then_ret ?_
      refine then_ret ?_
      refine block_ret ?_
      refine then_ret ?_
      exact en_ret [.int .i64 ((i : Nat) : Int)] (show (.int .i64 ((i : Nat) : Int) : Value) = (.int .i64 (Sp.ixF Sp.nok ps 0)) from (congrArg (Value.int .i64) (show ((i : Nat) : Int) = (Sp.ixF Sp.nok ps 0) from by (first | exact (by rw [← hh, Sp.ixF_yes hil (by assumption)]) | exact (by rw [← hh, Sp.ixF_end hge])))))
    · refine aw_sk ?_
      refine block_normal ?_
      refine then_normal ?_
      refine aw_p1 (
        .p (does_i (((i : Nat) : Int) + 1) (wrap_i64 (by omega) (by omega)) .i64) <| .a 1 1 <| .nil _ _) ?_
      refine then_normal ?_
      refine al_w [(0, .slice (some ⟨0, 0, none⟩) ps.length 0), (1, .func (.func 63) #[] #[]), (7, .int .i64 ((ps.length : Nat) : Int)), (8, .int .i64 (((i + 1) : Nat) : Int))] [(0, ⟨(ps.flatMap ptc), 29, false, 2⟩)] ?_ (hc := (by simp [closedB, valsB, valB, List.all_eq_true, List.mem_flatMap, List.mem_range, List.mem_map, i64v, ptc, flat1]; try (intros; simp [valsB, valB, flat1]); try decide))
      exact ih1 (i + 1) (show ((i + 1) ≤ ps.length) ∧ (Sp.ixF Sp.nok ps (i + 1) = Sp.ixF Sp.nok ps 0) from ⟨by omega, by (rw [← hh]; exact Sp.ixF_no hil (by assumption))⟩) (show ps.length - (i + 1) < ps.length - i from by omega)
  · have h1p : ¬ ((((i : Nat) : Int) < ((ps.length : Nat) : Int))) := by first | (simpa using h1) | (have h1q := h1; simp at h1q; omega) | (have h1q := bx2 h1; simp at h1q; omega)
    have hge : ¬ i < ps.length := by omega
    refine aw_ex 0 ?_
    refine then_exit ?_
    refine then_exit ?_
    refine block_exit ?_
    refine then_normal ?_
    refine aw_p 15 (
      .a 1 1 <| .nil _ _) ?_
    refine aw_rt ?_
    exact en_ret [.int .i64 (-1)] (show (.int .i64 (-1) : Value) = (.int .i64 (Sp.ixF Sp.nok ps 0)) from (congrArg (Value.int .i64) (show (-1) = (Sp.ixF Sp.nok ps 0) from by (first | exact (by rw [← hh, Sp.ixF_yes hil (by assumption)]) | exact (by rw [← hh, Sp.ixF_end hge])))))
theorem ixf_nokn_ro (ps : List (Int × Int)) (N : Nat) (hN : ps.length = N) (hz : N ≤ 9223372036854775807) : AC Try.prog 58 1 [.slice (some ⟨0, 0, none⟩) N 0, .func (.func 63) #[] #[]] [(0, ⟨(ps.flatMap ptc), 29, false, 2⟩)] (.int .i64 (Sp.ixF Sp.nok ps 0)) [] := by
  subst hN
  exact ixf_nok_ro ps hz
end Go.Proofs.Ytadifmimefmcnaa.Am

namespace Go.Proofs.Ytadifmimefmcnaa.Am
open Go Go.Proofs
set_option maxRecDepth 100000
set_option maxHeartbeats 4000000
set_option linter.unusedVariables false
set_option linter.unusedSimpArgs false
theorem ctf_nok_ro (ps : List (Int × Int)) (hz : ps.length ≤ 9223372036854775807) :
    AC Try.prog 19 1 ([.slice (some ⟨0, 0, none⟩) ps.length 0, .func (.func 63) #[] #[]]) [(0, ⟨(ps.flatMap ptc), 29, false, 2⟩)] (.bool (ps.any Sp.nok)) [] := by
  refine ac_in Try.func19 (fun w0 W pin => ?_)
  refine aw_p 3 (
    .a 1 1 <| .nil _ _) ?_
  refine aw_p 7 (
    .a 2 1 <|
    .p (does_callB (x := .func 58) (ars := #[.tmp 5, .tmp 6]) (ats := #[24, 34]) (g := 58) (vs := [.slice (some ⟨0, 0, none⟩) ps.length 0, .func (.func 63) #[] #[]]) (m := 1) (r := 0) (firsts := #[]) (caps := #[]) (args0 := [.slice (some ⟨0, 0, none⟩) ps.length 0, .func (.func 63) #[] #[]]) (pre0 := [(0, ⟨(ps.flatMap ptc), 29, false, 2⟩)]) (post0 := []) (pre := [(0, ⟨(ps.flatMap ptc), 29, false, 2⟩)]) (post := []) (v0 := .int .i64 (Sp.ixF Sp.nok ps 0)) (v := .int .i64 (Sp.ixF Sp.nok ps 0)) [0] (by kernel_rfl) (by kernel_rfl) (by kernel_rfl) (by kernel_rfl) (ixf_nokn_ro ps ps.length (rfl) (by first | omega | decide)) (.cons (.slice _ _ _ _ _ (by decide)) (.cons (.flatB (by kernel_rfl)) .nil)) ⟨rfl, ⟨rfl, rfl, rfl, (.flats (flats_pair _))⟩, trivial⟩ (by kernel_rfl) (by kernel_rfl) (by kernel_rfl) trivial (.flatB (by kernel_rfl))) <|
    .p (does_b (ps.any Sp.nok) (Sp.ixF_any _ _)) <| .a 1 1 <| .nil _ _) ?_
  refine aw_rt ?_
  exact en_ret [.bool (ps.any Sp.nok)] (by kernel_rfl)
end Go.Proofs.Ytadifmimefmcnaa.Am

namespace Go.Proofs.Ytadifmimefmcnaa.Am
open Go Go.Proofs
set_option maxRecDepth 100000
set_option maxHeartbeats 4000000
set_option linter.unusedVariables false
set_option linter.unusedSimpArgs false
theorem check_ok (X : List Row) (hz : ∀ i, (X.getD i []).length ≤ 4611686018427387904) (hn : X.length ≤ 4611686018427387904) :
    AC Try.prog 24 (1 + X.length) [.slice (some ⟨0, 0, none⟩) X.length 0] (famP 24 29 X) (.int .i64 (Sp.lnsE X)) [] := by
  refine acF Try.func24 ⟨.slice _ _ _ _ rfl, trivial⟩ rfl (fun w0 W pin => ?_)
  refine aw_p 3 (
    .a 1 1 <| .nil _ _) ?_
  refine aw_sq 6 7 ?_
  refine aw_p 13 (
    .a 3 1 <| .nil _ _) ?_
  refine aw_cd 26 27 (decide (((X.length : Nat) : Int) > 20)) (fun h1 => ?_) (fun h1 => ?_)
  · have h1p : ((((X.length : Nat) : Int) > 20)) := by first | (simpa using h1) | (have h1q := h1; simp at h1q; omega) | (have h1q := bx1 h1; simp at h1q; omega)
    refine aw_p 53 (
      .a 1 1 <| .nil _ _) ?_
    refine aw_rt ?_
    refine then_ret ?_
    exact en_ret [.int .i64 2] (show (.int .i64 2 : Value) = (.int .i64 (Sp.lnsE X)) from (congrArg (Value.int .i64) (show 2 = (Sp.lnsE X) from by (first | exact (Sp.lns_2 (by omega)).symm | exact (Sp.lns_e (by omega) ho hil (Sp.rowE_2 (by omega)) (by decide)).symm | exact (Sp.lns_e (by omega) ho hil (Sp.rowE_3 (by omega)) (by decide)).symm | exact (Sp.lns_e (by omega) ho hil (Sp.rowE_1 (by omega) (by omega) (by assumption)) (by decide)).symm | exact (Sp.lns_10 (by omega) ho hil hk.1 hkl (Sp.nbT (by assumption))).symm | exact (Sp.lns_0 (by omega) ho (by rw [hie] at hA; exact hA)).symm))))
  · have h1p : ¬ ((((X.length : Nat) : Int) > 20)) := by first | (simpa using h1) | (have h1q := h1; simp at h1q; omega) | (have h1q := bx2 h1; simp at h1q; omega)
    refine aw_sk ?_
    refine then_normal ?_
    refine aw_sq 14 15 ?_
    refine aw_p 29 (
      .a 3 1 <| .nil _ _) ?_
    refine aw_bl 0 59 ?_
    refine aw_lp 119 ?_
    refine al_wF [(0, .slice (some ⟨0, 0, none⟩) X.length 0), (11, .slice (some ⟨0, 0, none⟩) X.length 0), (12, .int .i64 ((X.length : Nat) : Int)), (13, .int .i64 ((0 : Nat) : Int))] [(0, ⟨(hds (· + 200) X), 24, false, 1⟩)] (famR 29 X) ⟨(hds_cl _ _ _), trivial⟩ (famR_flat _ _) ?_
    refine al_ind (fun i : Nat => (fun (i : Nat) => mkF 1 [(0, .slice (some ⟨0, 0, none⟩) X.length 0), (11, .slice (some ⟨0, 0, none⟩) X.length 0), (12, .int .i64 ((X.length : Nat) : Int)), (13, .int .i64 ((i : Nat) : Int))] [(0, ⟨(hds (· + 200) X), 24, false, 1⟩)] (famR 29 X)) i) (fun i : Nat => (fun (i : Nat) => (i ≤ X.length) ∧ (Sp.okTo X i)) i) (fun i : Nat => (fun (i : Nat) => X.length - i) i) (fun i hi1 ih1 => ?_) 0 (show (0 ≤ X.length) ∧ (Sp.okTo X 0) from ⟨by omega, by (exact Sp.okTo_0 X)⟩)
    obtain ⟨i, hv1⟩ : ∃ z, z = i := ⟨i, rfl⟩; subst hv1
    have hi1' : (i ≤ X.length) ∧ (Sp.okTo X i) := hi1
    obtain ⟨hi, ho⟩ := hi1'
    show AL _ _ _ (mkF 1 [(0, .slice (some ⟨0, 0, none⟩) X.length 0), (11, .slice (some ⟨0, 0, none⟩) X.length 0), (12, .int .i64 ((X.length : Nat) : Int)), (13, .int .i64 ((i : Nat) : Int))] [(0, ⟨(hds (· + 200) X), 24, false, 1⟩)] (famR 29 X)) _
    have zi := hz i
    refine al_round ?_
    refine aw_p 239 (
      .a 1 1 <| .nil _ _) ?_
    refine aw_sq 478 479 ?_
    refine aw_cd 956 957 (decide (((i : Nat) : Int) < ((X.length : Nat) : Int))) (fun h2 => ?_) (fun h2 => ?_)
    · have h2p : ((((i : Nat) : Int) < ((X.length : Nat) : Int))) := by first | (simpa using h2) | (have h2q := h2; simp at h2q; omega) | (have h2q := bx1 h2; simp at h2q; omega)
      have hil : i < X.length := by omega
      refine aw_sk ?_
      refine then_normal ?_
      refine aw_sq 958 959 ?_
      refine aw_bl 1 1917 ?_
      refine aw_p 3835 (
        .p (does_indexSlice (t := 36) (x := .tmp 11) (y := .tmp 13) (k := 0) (off := 0) (n := X.length) (c := 0) (z := 1) (kd := .i64) (j := ((i : Nat) : Int)) (by kernel_rfl) (by kernel_rfl) (by kernel_rfl) (by kernel_rfl) (by kernel_rfl) (by omega) (by omega)) <|
        .p (does_load (t := 24) (x := .tmp 15) (k := 0) (off := (0 + (((i : Nat) : Int)).toNat * 1)) (b := ⟨(hds (· + 200) X), 24, false, 1⟩) (v := .slice (some ⟨(i + 200), 0, none⟩) ((X.getD i []).length) 0) (by kernel_rfl) (by kernel_rfl) (by kernel_rfl) (by rw [show (0 + (((i : Nat) : Int)).toNat * 1) = i from (by omega)]; exact ldV_hds (by kernel_rfl) (by kernel_rfl) (by omega))) <|
        .a 1 1 <| .nil _ _) ?_
      refine aw_bl 2 7671 ?_
      refine aw_p 15343 (
        .a 4 1 <| .nil _ _) ?_
      refine aw_cd 30686 30687 (decide ((((X.getD i []).length : Nat) : Int) > 200)) (fun h3 => ?_) (fun h3 => ?_)
      · have h3p : (((((X.getD i []).length : Nat) : Int) > 200)) := by first | (simpa using h3) | (have h3q := h3; simp at h3q; omega) | (have h3q := bx1 h3; simp at h3q; omega)
        refine aw_p 61373 (
          .a 1 1 <| .nil _ _) ?_
        refine aw_rt ?_
        refine block_ret ?_
        refine block_ret ?_
        refine then_ret ?_
        refine then_ret ?_
        refine block_ret ?_
        refine then_ret ?_
        exact en_ret [.int .i64 2] (show (.int .i64 2 : Value) = (.int .i64 (Sp.lnsE X)) from (congrArg (Value.int .i64) (show 2 = (Sp.lnsE X) from by (first | exact (Sp.lns_2 (by omega)).symm | exact (Sp.lns_e (by omega) ho hil (Sp.rowE_2 (by omega)) (by decide)).symm | exact (Sp.lns_e (by omega) ho hil (Sp.rowE_3 (by omega)) (by decide)).symm | exact (Sp.lns_e (by omega) ho hil (Sp.rowE_1 (by omega) (by omega) (by assumption)) (by decide)).symm | exact (Sp.lns_10 (by omega) ho hil hk.1 hkl (Sp.nbT (by assumption))).symm | exact (Sp.lns_0 (by omega) ho (by rw [hie] at hA; exact hA)).symm))))
      · have h3p : ¬ (((((X.getD i []).length : Nat) : Int) > 200)) := by first | (simpa using h3) | (have h3q := h3; simp at h3q; omega) | (have h3q := bx2 h3; simp at h3q; omega)
        refine aw_p 61375 (
          .a 4 1 <| .nil _ _) ?_
        refine aw_cd 122750 122751 (decide ((((X.getD i []).length : Nat) : Int) < 2)) (fun h4 => ?_) (fun h4 => ?_)
        · have h4p : (((((X.getD i []).length : Nat) : Int) < 2)) := by first | (simpa using h4) | (have h4q := h4; simp at h4q; omega) | (have h4q := bx1 h4; simp at h4q; omega)
          refine aw_p 245501 (
            .a 1 1 <| .nil _ _) ?_
          refine aw_rt ?_
          refine block_ret ?_
          refine block_ret ?_
          refine then_ret ?_
          refine then_ret ?_
          refine block_ret ?_
          refine then_ret ?_
          exact en_ret [.int .i64 3] (show (.int .i64 3 : Value) = (.int .i64 (Sp.lnsE X)) from (congrArg (Value.int .i64) (show 3 = (Sp.lnsE X) from by (first | exact (Sp.lns_2 (by omega)).symm | exact (Sp.lns_e (by omega) ho hil (Sp.rowE_2 (by omega)) (by decide)).symm | exact (Sp.lns_e (by omega) ho hil (Sp.rowE_3 (by omega)) (by decide)).symm | exact (Sp.lns_e (by omega) ho hil (Sp.rowE_1 (by omega) (by omega) (by assumption)) (by decide)).symm | exact (Sp.lns_10 (by omega) ho hil hk.1 hkl (Sp.nbT (by assumption))).symm | exact (Sp.lns_0 (by omega) ho (by rw [hie] at hA; exact hA)).symm))))
        · have h4p : ¬ (((((X.getD i []).length : Nat) : Int) < 2)) := by first | (simpa using h4) | (have h4q := h4; simp at h4q; omega) | (have h4q := bx2 h4; simp at h4q; omega)
          refine aw_p 245503 (
            .a 1 1 <|
            .p (does_ro [(i + 200)] #[.tmp 26, .func 63] #[24, 34] [.slice (some ⟨(i + 200), 0, none⟩) ((X.getD i []).length) 0, .func (.func 63) #[] #[]] [(29, false)] (ctf_nok_ro (X.getD i []) (by omega)) (.cons (.slice _ _ _ _ _ (by decide)) (.cons (.flatB (by kernel_rfl)) .nil)) ⟨⟨rfl, flats_pair _⟩, trivial⟩) <|
            .a 1 1 <| .nil _ _) ?_
          refine aw_cd 491006 491007 ((X.getD i []).any Sp.nok) (fun h5 => ?_) (fun h5 => ?_)
          · refine aw_p 982013 (
              .a 1 1 <| .nil _ _) ?_
            refine aw_rt ?_
            refine block_ret ?_
            refine block_ret ?_
            refine then_ret ?_
            refine then_ret ?_
            refine block_ret ?_
            refine then_ret ?_
            exact en_ret [.int .i64 1] (show (.int .i64 1 : Value) = (.int .i64 (Sp.lnsE X)) from (congrArg (Value.int .i64) (show 1 = (Sp.lnsE X) from by (first | exact (Sp.lns_2 (by omega)).symm | exact (Sp.lns_e (by omega) ho hil (Sp.rowE_2 (by omega)) (by decide)).symm | exact (Sp.lns_e (by omega) ho hil (Sp.rowE_3 (by omega)) (by decide)).symm | exact (Sp.lns_e (by omega) ho hil (Sp.rowE_1 (by omega) (by omega) (by assumption)) (by decide)).symm | exact (Sp.lns_10 (by omega) ho hil hk.1 hkl (Sp.nbT (by assumption))).symm | exact (Sp.lns_0 (by omega) ho (by rw [hie] at hA; exact hA)).symm))))
          · refine aw_sk ?_
            refine block_normal ?_
            refine block_normal ?_
            refine then_normal ?_
            refine aw_p1 (
              .p (does_i (((i : Nat) : Int) + 1) (wrap_i64 (by omega) (by omega)) .i64) <| .a 1 1 <| .nil _ _) ?_
            refine then_normal ?_
            refine al_wF [(0, .slice (some ⟨0, 0, none⟩) X.length 0), (11, .slice (some ⟨0, 0, none⟩) X.length 0), (12, .int .i64 ((X.length : Nat) : Int)), (13, .int .i64 (((i + 1) : Nat) : Int))] [(0, ⟨(hds (· + 200) X), 24, false, 1⟩)] (famR 29 X) ⟨(hds_cl _ _ _), trivial⟩ (famR_flat _ _) ?_
            exact ih1 (i + 1) (show ((i + 1) ≤ X.length) ∧ (Sp.okTo X (i + 1)) from ⟨by omega, by (exact Sp.okTo_next ho (by omega) (by omega) (by assumption))⟩) (show X.length - (i + 1) < X.length - i from by omega)
    · have h2p : ¬ ((((i : Nat) : Int) < ((X.length : Nat) : Int))) := by first | (simpa using h2) | (have h2q := h2; simp at h2q; omega) | (have h2q := bx2 h2; simp at h2q; omega)
      have hie : i = X.length := by omega
      refine aw_ex 0 ?_
      refine then_exit ?_
      refine then_exit ?_
      refine block_exit ?_
      refine then_normal ?_
      rw [hie] at ho; have hF := Sp.okTo_few ho; clear hie
      refine aw_sq 30 31 ?_
      refine aw_p 61 (
        .a 3 1 <| .nil _ _) ?_
      refine aw_bl 3 123 ?_
      refine aw_lp 247 ?_
      refine al_wF [(0, .slice (some ⟨0, 0, none⟩) X.length 0), (29, .slice (some ⟨0, 0, none⟩) X.length 0), (30, .int .i64 ((X.length : Nat) : Int)), (31, .int .i64 ((0 : Nat) : Int))] [(0, ⟨(hds (· + 200) X), 24, false, 1⟩)] (famR 29 X) ⟨(hds_cl _ _ _), trivial⟩ (famR_flat _ _) ?_
      refine al_ind (fun i : Nat => (fun (u : Nat) => mkF 1 [(0, .slice (some ⟨0, 0, none⟩) X.length 0), (29, .slice (some ⟨0, 0, none⟩) X.length 0), (30, .int .i64 ((X.length : Nat) : Int)), (31, .int .i64 ((u : Nat) : Int))] [(0, ⟨(hds (· + 200) X), 24, false, 1⟩)] (famR 29 X)) i) (fun i : Nat => (fun (u : Nat) => (u ≤ X.length) ∧ (Sp.frTo X u = true)) i) (fun i : Nat => (fun (u : Nat) => X.length - u) i) (fun i hi2 ih2 => ?_) 0 (show (0 ≤ X.length) ∧ (Sp.frTo X 0 = true) from ⟨by omega, by rfl⟩)
      obtain ⟨u, hv2⟩ : ∃ z, z = i := ⟨i, rfl⟩; subst hv2
      have hi2' : (u ≤ X.length) ∧ (Sp.frTo X u = true) := hi2
      obtain ⟨hi, hA⟩ := hi2'
      show AL _ _ _ (mkF 1 [(0, .slice (some ⟨0, 0, none⟩) X.length 0), (29, .slice (some ⟨0, 0, none⟩) X.length 0), (30, .int .i64 ((X.length : Nat) : Int)), (31, .int .i64 ((u : Nat) : Int))] [(0, ⟨(hds (· + 200) X), 24, false, 1⟩)] (famR 29 X)) _
      have zi := hz u
      refine al_round ?_
      refine aw_p 495 (
        .a 1 1 <| .nil _ _) ?_
      refine aw_sq 990 991 ?_
      refine aw_cd 1980 1981 (decide (((u : Nat) : Int) < ((X.length : Nat) : Int))) (fun h6 => ?_) (fun h6 => ?_)
      · have h6p : ((((u : Nat) : Int) < ((X.length : Nat) : Int))) := by first | (simpa using h6) | (have h6q := h6; simp at h6q; omega) | (have h6q := bx1 h6; simp at h6q; omega)
        have hil : u < X.length := by omega
        refine aw_sk ?_
        refine then_normal ?_
        refine aw_sq 1982 1983 ?_
        refine aw_bl 4 3965 ?_
        refine aw_p 7931 (
          .a 1 1 <| .p (does_indexSlice (t := 36) (x := .tmp 29) (y := .tmp 31) (k := 0) (off := 0) (n := X.length) (c := 0) (z := 1) (kd := .i64) (j := ((u : Nat) : Int)) (by kernel_rfl) (by kernel_rfl) (by kernel_rfl) (by kernel_rfl) (by kernel_rfl) (by omega) (by omega)) <|
          .p (does_load (t := 24) (x := .tmp 34) (k := 0) (off := (0 + (((u : Nat) : Int)).toNat * 1)) (b := ⟨(hds (· + 200) X), 24, false, 1⟩) (v := .slice (some ⟨(u + 200), 0, none⟩) ((X.getD u []).length) 0) (by kernel_rfl) (by kernel_rfl) (by kernel_rfl) (by rw [show (0 + (((u : Nat) : Int)).toNat * 1) = u from (by omega)]; exact ldV_hds (by kernel_rfl) (by kernel_rfl) (by omega))) <|
          .a 2 1 <| .nil _ _) ?_
        refine aw_p 15863 (
          .a 1 1 <| .nil _ _) ?_
        refine aw_bl 5 31727 ?_
        refine aw_lp 63455 ?_
        refine al_wF [(0, .slice (some ⟨0, 0, none⟩) X.length 0), (5, .int .i64 ((u : Nat) : Int)), (6, .slice (some ⟨(u + 200), 0, none⟩) ((X.getD u []).length) 0), (7, .int .i64 ((1 : Nat) : Int)), (29, .slice (some ⟨0, 0, none⟩) X.length 0), (30, .int .i64 ((X.length : Nat) : Int)), (31, .int .i64 ((u : Nat) : Int))] [(0, ⟨(hds (· + 200) X), 24, false, 1⟩)] (famR 29 X) ⟨(hds_cl _ _ _), trivial⟩ (famR_flat _ _) ?_
        refine al_ind (fun i : Nat => (fun (k : Nat) => mkF 1 [(0, .slice (some ⟨0, 0, none⟩) X.length 0), (5, .int .i64 ((u : Nat) : Int)), (6, .slice (some ⟨(u + 200), 0, none⟩) ((X.getD u []).length) 0), (7, .int .i64 ((k : Nat) : Int)), (29, .slice (some ⟨0, 0, none⟩) X.length 0), (30, .int .i64 ((X.length : Nat) : Int)), (31, .int .i64 ((u : Nat) : Int))] [(0, ⟨(hds (· + 200) X), 24, false, 1⟩)] (famR 29 X)) i) (fun i : Nat => (fun (k : Nat) => (1 ≤ k ∧ k ≤ (X.getD u []).length) ∧ (Sp.frRow X u k = true)) i) (fun i : Nat => (fun (k : Nat) => (X.getD u []).length - k) i) (fun i hi3 ih3 => ?_) 1 (show (1 ≤ 1 ∧ 1 ≤ (X.getD u []).length) ∧ (Sp.frRow X u 1 = true) from ⟨by (have := (Sp.rowE_0 (ho u hil)).1; omega), by rfl⟩)
        obtain ⟨k, hv3⟩ : ∃ z, z = i := ⟨i, rfl⟩; subst hv3
        have hi3' : (1 ≤ k ∧ k ≤ (X.getD u []).length) ∧ (Sp.frRow X u k = true) := hi3
        obtain ⟨hk, hB⟩ := hi3'
        show AL _ _ _ (mkF 1 [(0, .slice (some ⟨0, 0, none⟩) X.length 0), (5, .int .i64 ((u : Nat) : Int)), (6, .slice (some ⟨(u + 200), 0, none⟩) ((X.getD u []).length) 0), (7, .int .i64 ((k : Nat) : Int)), (29, .slice (some ⟨0, 0, none⟩) X.length 0), (30, .int .i64 ((X.length : Nat) : Int)), (31, .int .i64 ((u : Nat) : Int))] [(0, ⟨(hds (· + 200) X), 24, false, 1⟩)] (famR 29 X)) _
        refine al_round ?_
        refine aw_sq 126910 126911 ?_
        refine aw_p 253821 (
          .a 4 1 <| .nil _ _) ?_
        refine aw_cd 507642 507643 (decide (((k : Nat) : Int) < (((X.getD u []).length : Nat) : Int))) (fun h7 => ?_) (fun h7 => ?_)
        · have h7p : ((((k : Nat) : Int) < (((X.getD u []).length : Nat) : Int))) := by first | (simpa using h7) | (have h7q := h7; simp at h7q; omega) | (have h7q := bx1 h7; simp at h7q; omega)
          have hkl : k < (X.getD u []).length := by omega
          refine aw_sk ?_
          refine then_normal ?_
          refine aw_sq 253822 253823 ?_
          refine aw_bl 6 507645 ?_
          refine aw_p 1015291 (
            .a 3 1 <|
            .p (does_fam 0 (· + 200) #[.tmp 42, .tmp 43, .tmp 44] #[36, 3, 3] [.slice (some ⟨0, 0, none⟩) X.length 0, .int .i64 ((u : Nat) : Int), .int .i64 ((k : Nat) : Int)] (free_ok X u k hF (fun i hi => ⟨(Sp.rowE_0 (ho i hi)).1, (Sp.rowE_0 (ho i hi)).2.1⟩) (by omega) hil ⟨hk.1, hkl⟩) ⟨24, false, by kernel_rfl⟩ (fun j _ => ⟨29, false, by kernel_rfl⟩) (show RenL (famS 0 (· + 200)) (· < 1 + X.length) [.slice (some ⟨0, 0, none⟩) X.length 0, .int .i64 ((u : Nat) : Int), .int .i64 ((k : Nat) : Int)] [.slice (some ⟨0, 0, none⟩) X.length 0, .int .i64 ((u : Nat) : Int), .int .i64 ((k : Nat) : Int)] from (.cons (.slice 0 _ _ _ _ (by show 0 < 1 + _; omega)) (.cons (.flatB (by kernel_rfl)) (.cons (.flatB (by kernel_rfl)) .nil))))) <|
            .a 1 1 <| .nil _ _) ?_
          refine aw_cd 2030582 2030583 (!(Sp.freeB X u k)) (fun h8 => ?_) (fun h8 => ?_)
          · refine aw_p 4061165 (
              .a 1 1 <| .nil _ _) ?_
            refine aw_rt ?_
            refine block_ret ?_
            refine then_ret ?_
            refine then_ret ?_
            refine block_ret ?_
            refine block_ret ?_
            refine then_ret ?_
            refine then_ret ?_
            refine block_ret ?_
            refine then_ret ?_
            exact en_ret [.int .i64 10] (show (.int .i64 10 : Value) = (.int .i64 (Sp.lnsE X)) from (congrArg (Value.int .i64) (show 10 = (Sp.lnsE X) from by (first | exact (Sp.lns_2 (by omega)).symm | exact (Sp.lns_e (by omega) ho hil (Sp.rowE_2 (by omega)) (by decide)).symm | exact (Sp.lns_e (by omega) ho hil (Sp.rowE_3 (by omega)) (by decide)).symm | exact (Sp.lns_e (by omega) ho hil (Sp.rowE_1 (by omega) (by omega) (by assumption)) (by decide)).symm | exact (Sp.lns_10 (by omega) ho hil hk.1 hkl (Sp.nbT (by assumption))).symm | exact (Sp.lns_0 (by omega) ho (by rw [hie] at hA; exact hA)).symm))))
          · refine aw_sk ?_
            refine block_normal ?_
            refine then_normal ?_
            refine aw_p1 (
              .a 1 1 <| .p (does_i (((k : Nat) : Int) + 1) (wrap_i64 (by omega) (by omega)) .i64) <| .a 1 1 <| .nil _ _) ?_
            refine then_normal ?_
            refine al_wF [(0, .slice (some ⟨0, 0, none⟩) X.length 0), (5, .int .i64 ((u : Nat) : Int)), (6, .slice (some ⟨(u + 200), 0, none⟩) ((X.getD u []).length) 0), (7, .int .i64 (((k + 1) : Nat) : Int)), (29, .slice (some ⟨0, 0, none⟩) X.length 0), (30, .int .i64 ((X.length : Nat) : Int)), (31, .int .i64 ((u : Nat) : Int))] [(0, ⟨(hds (· + 200) X), 24, false, 1⟩)] (famR 29 X) ⟨(hds_cl _ _ _), trivial⟩ (famR_flat _ _) ?_
            exact ih3 (k + 1) (show (1 ≤ (k + 1) ∧ (k + 1) ≤ (X.getD u []).length) ∧ (Sp.frRow X u (k + 1) = true) from ⟨by omega, by (exact Sp.frRow_next hB (Sp.nbF (by assumption)))⟩) (show (X.getD u []).length - (k + 1) < (X.getD u []).length - k from by omega)
        · have h7p : ¬ ((((k : Nat) : Int) < (((X.getD u []).length : Nat) : Int))) := by first | (simpa using h7) | (have h7q := h7; simp at h7q; omega) | (have h7q := bx2 h7; simp at h7q; omega)
          have hke : k = (X.getD u []).length := by omega
          refine aw_ex 5 ?_
          refine then_exit ?_
          refine then_exit ?_
          refine block_exit ?_
          refine block_normal ?_
          refine then_normal ?_
          refine aw_p1 (
            .p (does_i (((u : Nat) : Int) + 1) (wrap_i64 (by omega) (by omega)) .i64) <| .a 1 1 <| .nil _ _) ?_
          refine then_normal ?_
          refine al_wF [(0, .slice (some ⟨0, 0, none⟩) X.length 0), (29, .slice (some ⟨0, 0, none⟩) X.length 0), (30, .int .i64 ((X.length : Nat) : Int)), (31, .int .i64 (((u + 1) : Nat) : Int))] [(0, ⟨(hds (· + 200) X), 24, false, 1⟩)] (famR 29 X) ⟨(hds_cl _ _ _), trivial⟩ (famR_flat _ _) ?_
          exact ih2 (u + 1) (show ((u + 1) ≤ X.length) ∧ (Sp.frTo X (u + 1) = true) from ⟨by omega, by (exact Sp.frTo_next hA (by rw [← hke]; exact hB))⟩) (show X.length - (u + 1) < X.length - u from by omega)
      · have h6p : ¬ ((((u : Nat) : Int) < ((X.length : Nat) : Int))) := by first | (simpa using h6) | (have h6q := h6; simp at h6q; omega) | (have h6q := bx2 h6; simp at h6q; omega)
        have hie : u = X.length := by omega
        refine aw_ex 3 ?_
        refine then_exit ?_
        refine then_exit ?_
        refine block_exit ?_
        refine then_normal ?_
        refine aw_p 63 (
          .a 1 1 <| .nil _ _) ?_
        refine aw_rt ?_
        exact en_ret [.int .i64 0] (show (.int .i64 0 : Value) = (.int .i64 (Sp.lnsE X)) from (congrArg (Value.int .i64) (show 0 = (Sp.lnsE X) from by (first | exact (Sp.lns_2 (by omega)).symm | exact (Sp.lns_e (by omega) ho hil (Sp.rowE_2 (by omega)) (by decide)).symm | exact (Sp.lns_e (by omega) ho hil (Sp.rowE_3 (by omega)) (by decide)).symm | exact (Sp.lns_e (by omega) ho hil (Sp.rowE_1 (by omega) (by omega) (by assumption)) (by decide)).symm | exact (Sp.lns_10 (by omega) ho hil hk.1 hkl (Sp.nbT (by assumption))).symm | exact (Sp.lns_0 (by omega) ho (by rw [hie] at hA; exact hA)).symm))))
end Go.Proofs.Ytadifmimefmcnaa.Am

set_option linter.unusedVariables false
set_option linter.unusedSimpArgs false
namespace Go.Proofs.Ytadifmimefmcnaa.Am.Sp
open Go
def lnR (xs : List Int) (p b : Nat) : List (Int × Int) := lnL ((xs.drop p).take (min (xs.length - p) b)) (min (xs.length - p) b % 7 + 2)
def lnS (xs : List Int) (p : Nat) (X : List (List (Int × Int))) : List (List (Int × Int)) := if lnsE (X ++ [lnR xs p 10]) = 0 then X ++ [lnR xs p 10] else X
def lnz (xs : List Int) (p : Nat) (X : List (List (Int × Int))) : List (List (Int × Int)) := if p < xs.length ∧ X.length < 5 then lnz xs (p + min (xs.length - p) 10) (lnS xs p X) else X
termination_by xs.length - p
theorem lnz_end {xs : List Int} {p : Nat} {X : List (List (Int × Int))} (h : ¬ (p < xs.length ∧ X.length < 5)) : lnz xs p X = X := by rw [lnz, if_neg h]
theorem lnz_y {xs : List Int} {p : Nat} {X : List (List (Int × Int))} (h1 : p < xs.length) (h2 : X.length < 5) (h : lnsE (X ++ [lnR xs p 10]) = 0) : lnz xs (p + min (xs.length - p) 10) (X ++ [lnR xs p 10]) = lnz xs p X := by
  rw [lnz.eq_1 xs p X, if_pos ⟨h1, h2⟩]; unfold lnS; rw [if_pos h]
theorem lnz_n {xs : List Int} {p : Nat} {X : List (List (Int × Int))} (h1 : p < xs.length) (h2 : X.length < 5) (h : lnsE (X ++ [lnR xs p 10]) ≠ 0) : lnz xs (p + min (xs.length - p) 10) X = lnz xs p X := by
  rw [lnz.eq_1 xs p X, if_pos ⟨h1, h2⟩]; unfold lnS; rw [if_neg h]
theorem lnz_ind {xs : List Int} (Q : List (List (Int × Int)) → Prop) (step : ∀ p X, Q X → p < xs.length → lnsE (X ++ [lnR xs p 10]) = 0 → Q (X ++ [lnR xs p 10])) : ∀ (n p : Nat) (X : List (List (Int × Int))), xs.length - p ≤ n → Q X → Q (lnz xs p X)
  | 0, p, X, hn, h => by rw [lnz_end (by omega)]; exact h
  | n + 1, p, X, hn, h => by
    by_cases hc : p < xs.length ∧ X.length < 5
    · rw [lnz, if_pos hc]
      refine lnz_ind Q step n _ _ (by omega) ?_
      unfold lnS
      split
      · rename_i he; exact step p X h hc.1 he
      · exact h
    · rw [lnz_end hc]; exact h
theorem lnz_ne {xs : List Int} {p : Nat} {X : List (List (Int × Int))} (h : X ≠ []) : lnz xs p X ≠ [] :=
  lnz_ind (fun X => X ≠ []) (fun p X _ _ _ => by simp) (xs.length - p) p X (Nat.le_refl _) h
theorem lns_nil : lnsE [] = 0 := by
  unfold lnsE fstE; rfl
theorem lnz_ok {xs : List Int} : lnsE (lnz xs 0 []) = 0 :=
  lnz_ind (fun X => lnsE X = 0) (fun p X _ _ h => h) xs.length 0 [] (by omega) lns_nil
theorem lnR_len {xs : List Int} {p b : Nat} : (lnR xs p b).length = min (xs.length - p) b % 7 + 2 := by unfold lnR; rw [lnL_len]
theorem nok_few {x : List (Int × Int)} (h : Few 1048576 x) : x.any nok = false := by
  rw [List.any_eq_false]
  intro q hq
  have := few_mem h hq
  unfold nok
  rw [(okb_iff q.1 q.2).2 this]; simp
/-- thinned lines: what the laws ask -/
theorem keep_all {tol : Int} {X Y : List (List (Int × Int))} (h : lnsE X = 0) (e : Y = keepN tol X X.length) : lnsE Y = 0 ∧ Y.length = X.length ∧ (∀ j, Few 1048576 (Y.getD j [])) ∧ (∀ j, j < X.length → 2 ≤ (X.getD j []).length ∧ (X.getD j []).length ≤ 200 ∧ 2 ≤ (Y.getD j []).length ∧ (Y.getD j []).length ≤ 200 ∧ ThinL tol (X.getD j []) (Y.getD j [])) := by
  have hR := KR.of h (Nat.le_refl X.length) e
  obtain ⟨h1, ho, _, _⟩ := lns_ok h
  refine ⟨lns_of (by rw [hR.len]; exact h1) (fun j hj => ?_) hR.lines, hR.len, hR.few, fun j hj => ?_⟩
  · obtain ⟨s1, s2⟩ := hR.sizes j hj
    unfold rowE
    rw [if_neg (by omega), if_neg (by omega), if_neg]
    have := nok_few (hR.few j)
    rw [this]; simp
  · have a := rowE_0 (ho j hj)
    have b := hR.sizes j (by rw [hR.len]; exact hj)
    exact ⟨a.1, a.2.1, b.1, b.2, hR.thin j hj⟩
theorem ThinL.nl {tol : Int} {x y : List (Int × Int)} (h : ThinL tol x y) (ht : 0 ≤ tol) {w : Nat} (hw : w < x.length) : ∃ k, k + 1 < y.length ∧ wthn (x.getD w (0, 0)).1 (x.getD w (0, 0)).2 (y.getD k (0, 0)).1 (y.getD k (0, 0)).2 (y.getD (k + 1) (0, 0)).1 (y.getD (k + 1) (0, 0)).2 tol = true := by
  obtain ⟨k, h1, h2, h3⟩ := h.near w hw
  obtain ⟨k, rfl⟩ : ∃ q, k = q + 1 := ⟨k - 1, by omega⟩
  refine ⟨k, h2, ?_⟩
  rw [show mx tol 0 = tol from by unfold mx; split <;> omega] at h3
  exact h3
end Go.Proofs.Ytadifmimefmcnaa.Am.Sp

namespace Go.Proofs.Ytadifmimefmcnaa.Am
open Go Go.Proofs
set_option maxRecDepth 100000
set_option maxHeartbeats 4000000
set_option linter.unusedVariables false
set_option linter.unusedSimpArgs false
theorem lines_nil (xs : List Int) (hz : xs.length ≤ 9223372036854775807) (Z : List Row) (hZ0 : Sp.lnz xs 0 [] = Z) (hZ : Z = []) :
    AC Try.prog 29 1 [.slice (some ⟨0, 0, none⟩) xs.length 0] [(0, ⟨(xs.map i64v), 3, false, 1⟩)] (.slice none 0 0) [] := by
  refine ac_in Try.func29 (fun w0 W pin => ?_)
  refine aw_p 3 (
    .a 1 1 <| .nil _ _) ?_
  refine aw_p 7 (
    .a 1 1 <| .nil _ _) ?_
  refine aw_sq 14 15 ?_
  refine aw_bl 0 29 ?_
  refine aw_lp 59 ?_
  refine al_w [(0, .slice (some ⟨0, 0, none⟩) (xs.length - 0) 0), (3, .slice none 0 0)] [(0, ⟨(xs.map i64v), 3, false, 1⟩)] ?_ (hc := (by simp [closedB, valsB, valB, List.all_eq_true, List.mem_flatMap, List.mem_range, List.mem_map, i64v, ptc, flat1]; try (intros; simp [valsB, valB, flat1]); try decide))
  refine al_ind (fun i : Nat => (fun (p : Nat) => mkSt 1 [(0, .slice (some ⟨0, p, none⟩) (xs.length - p) 0), (3, .slice none 0 0)] [(0, ⟨(xs.map i64v), 3, false, 1⟩)]) i) (fun i : Nat => (fun (p : Nat) => (p ≤ xs.length) ∧ (Sp.lnz xs p [] = Z)) i) (fun i : Nat => (fun (p : Nat) => xs.length - p) i) (fun i hi1 ih1 => ?_) 0 (show (0 ≤ xs.length) ∧ (Sp.lnz xs 0 [] = Z) from ⟨by omega, by (exact hZ0)⟩)
  obtain ⟨p, hv1⟩ : ∃ z, z = i := ⟨i, rfl⟩; subst hv1
  have hi1' : (p ≤ xs.length) ∧ (Sp.lnz xs p [] = Z) := hi1
  obtain ⟨hp, hE⟩ := hi1'
  show AL _ _ _ (mkSt 1 [(0, .slice (some ⟨0, p, none⟩) (xs.length - p) 0), (3, .slice none 0 0)] [(0, ⟨(xs.map i64v), 3, false, 1⟩)]) _
  obtain ⟨n, hn⟩ : ∃ n, n = min (xs.length - p) 10 := ⟨_, rfl⟩
  obtain ⟨r, hrp⟩ : ∃ r, r = Sp.lnR xs p 10 := ⟨_, rfl⟩
  have hr8 : 2 ≤ r.length ∧ r.length ≤ 8 := (by rw [hrp, Sp.lnR_len]; omega)
  have hrr : r = Sp.lnL ((xs.drop p).take n) (n % 7 + 2) := (by rw [hrp, hn]; rfl)
  refine al_round ?_
  refine aw_sq 118 119 ?_
  rcases Bool.eq_false_or_eq_true (decide ((((xs.length - p) : Nat) : Int) > 0)) with h1 | h1
  · have h1p : (((((xs.length - p) : Nat) : Int) > 0)) := by first | (simpa using h1) | (have h1q := h1; simp at h1q; omega) | (have h1q := bx1 h1; simp at h1q; omega)
    refine aw_p 237 (
      .a 2 1 <| .p (does_b true (h1)) <| .a 5 1 <| .nil _ _) ?_
    refine aw_tr 474 ?_
    refine aw_sk ?_
    refine then_normal ?_
    refine aw_bl 1 239 ?_
    refine aw_p 479 (
      .a 2 1 <| .p (does_i ((n : Nat) : Int) ((show (Sp.mn (((xs.length - p) : Nat) : Int) 10) = ((n : Nat) : Int) from (by unfold Sp.mn; split <;> omega))) .i64) <| .a 1 1 <| .nil _ _) ?_
    refine aw_d 959 (
      .a 1 1 <| .p (does_c (clonenil_ok)) <| .a 2 1 <|
      .p (does_val (v' := .slice (some ⟨0, (p + 0), none⟩) n 0) (does_slice (t := 22) (x := .tmp 19) (lo := none) (hi := some (.tmp 20)) (k := 0) (off := p) (n := (xs.length - p)) (c := 0) (z := 1) (l := 0) (h := ((n : Nat) : Int)) (m := n) (b := ⟨(xs.map i64v), 3, false, 1⟩) (by kernel_rfl) (by kernel_rfl) (by kernel_rfl) (by kernel_rfl) (by kernel_rfl) (by kernel_rfl) (by kernel_rfl) (by kernel_rfl) (by omega) (by omega) (by omega) (by omega)) (by kernel_rfl)) <|
      .p (does_callB (x := .func 14) (ars := #[.tmp 21]) (ats := #[22]) (g := 14) (vs := [.slice (some ⟨0, (p + 0), none⟩) n 0]) (m := 1) (r := 1) (firsts := #[]) (caps := #[]) (args0 := [.slice (some ⟨0, (p + 0), none⟩) n 0]) (pre0 := [(0, ⟨(xs.map i64v), 3, false, 1⟩)]) (post0 := [(1, ⟨(r.flatMap ptc), 29, true, 2⟩)]) (pre := [(0, ⟨(xs.map i64v), 3, false, 1⟩)]) (post := [(1, ⟨(r.flatMap ptc), 29, true, 2⟩)]) (v0 := .slice (some ⟨1, 0, none⟩) r.length 0) (v := .slice (some ⟨1, 0, none⟩) r.length 0) [0, 1] (by kernel_rfl) (by kernel_rfl) (by kernel_rfl) (by kernel_rfl) (mlineat_ok xs (p + 0) n r (by omega) (by omega) hrr.symm) (.cons (.slice _ _ _ _ _ (by decide)) .nil) ⟨rfl, ⟨rfl, rfl, rfl, (.flats (flats_map (fun _ => rfl) _))⟩, trivial⟩ (by kernel_rfl) (by kernel_rfl) (by kernel_rfl) ⟨rfl, ⟨rfl, rfl, rfl, (.flats (flats_pair _))⟩, trivial⟩ (.slice _ _ _ _ _ (by decide))) <|
      .a 1 2 <| .p (does_ap 3) <| .a 1 4 <| .nil _ _) ?_
    refine aw_sq 1918 1919 ?_
    refine aw_p 3837 (
      .a 1 4 <|
      .p (does_fam 3 (fun _ => 1) #[.tmp 25] #[36] [.slice (some ⟨3, 0, none⟩) 1 0] (check_ok [r] (fun i => by match i with | 0 => exact Nat.le_trans hr8.2 (by decide) | i + 1 => simp) (by simp)) ⟨24, true, by kernel_rfl⟩ (fun j hj => by obtain rfl : j = 0 := (by simp at hj; omega); exact ⟨29, true, by kernel_rfl⟩) (show RenL (famS 3 (fun _ => 1)) (· < 1 + 1) [.slice (some ⟨0, 0, none⟩) 1 0] [.slice (some ⟨3, 0, none⟩) 1 0] from (.cons (.slice 0 _ _ _ _ (by show 0 < 1 + _; omega)) .nil))) <|
      .a 1 4 <| .nil _ _) ?_
    refine aw_cd 7674 7675 ((Sp.lnsE [r]) == 0) (fun h2 => ?_) (fun h2 => ?_)
    · have h2p : (((Sp.lnsE [r]) = 0)) := by first | (simpa using h2) | (have h2q := h2; simp at h2q; omega) | (have h2q := bx1 h2; simp at h2q; omega)
      refine aw_p1 (
        .a 2 4 <| .nil _ _) ?_
      refine then_normal ?_
      refine aw_p1 (
        .a 2 4 <|
        .p (does_val (v' := .slice (some ⟨0, (p + n * 1), none⟩) ((xs.length - p) - n) 0) (does_slice (t := 22) (x := .tmp 29) (lo := some (.tmp 30)) (hi := none) (k := 0) (off := p) (n := (xs.length - p)) (c := 0) (z := 1) (l := ((n : Nat) : Int)) (h := (((xs.length - p) : Nat) : Int)) (m := ((xs.length - p) - n)) (b := ⟨(xs.map i64v), 3, false, 1⟩) (by kernel_rfl) (by kernel_rfl) (by kernel_rfl) (by kernel_rfl) (by kernel_rfl) (by kernel_rfl) (by kernel_rfl) (by kernel_rfl) (by omega) (by omega) (by omega) (by omega)) (by kernel_rfl)) <|
        .a 1 4 <| .nil _ _) ?_
      refine block_normal ?_
      refine then_normal ?_
      have hS : Sp.lnsE ([] ++ [Sp.lnR xs p 10]) = 0 := (by rw [← hrp]; first | assumption | (simpa using h2))
      have hE2 : Sp.lnz xs (p + n) [r] = Z := (by rw [hn, hrp]; exact (Sp.lnz_y (by omega) (by first | omega | (simp; done)) hS).trans hE)
      exact absurd (hE2.trans hZ) (Sp.lnz_ne (by simp))
    · have h2p : ¬ (((Sp.lnsE [r]) = 0)) := by first | (simpa using h2) | (have h2q := h2; simp at h2q; omega) | (have h2q := bx2 h2; simp at h2q; omega)
      refine aw_sk ?_
      refine then_normal ?_
      refine aw_p1 (
        .a 2 4 <|
        .p (does_val (v' := .slice (some ⟨0, (p + n * 1), none⟩) ((xs.length - p) - n) 0) (does_slice (t := 22) (x := .tmp 29) (lo := some (.tmp 30)) (hi := none) (k := 0) (off := p) (n := (xs.length - p)) (c := 0) (z := 1) (l := ((n : Nat) : Int)) (h := (((xs.length - p) : Nat) : Int)) (m := ((xs.length - p) - n)) (b := ⟨(xs.map i64v), 3, false, 1⟩) (by kernel_rfl) (by kernel_rfl) (by kernel_rfl) (by kernel_rfl) (by kernel_rfl) (by kernel_rfl) (by kernel_rfl) (by kernel_rfl) (by omega) (by omega) (by omega) (by omega)) (by kernel_rfl)) <|
        .a 1 4 <| .nil _ _) ?_
      refine block_normal ?_
      refine then_normal ?_
      refine al_w [(0, .slice (some ⟨0, (p + n), none⟩) (xs.length - (p + n)) 0), (3, .slice none 0 0)] [(0, ⟨(xs.map i64v), 3, false, 1⟩)] ?_ (by rw [← Nat.sub_sub, show p + n = p + n * 1 from by omega]; kernel_rfl) (hc := (by simp [closedB, valsB, valB, List.all_eq_true, List.mem_flatMap, List.mem_range, List.mem_map, i64v, ptc, flat1]; try (intros; simp [valsB, valB, flat1]); try decide))
      refine al_w [(0, .slice (some ⟨0, (p + n), none⟩) (xs.length - (p + n)) 0), (3, .slice none 0 0)] [(0, ⟨(xs.map i64v), 3, false, 1⟩)] ?_ (hc := (by simp [closedB, valsB, valB, List.all_eq_true, List.mem_flatMap, List.mem_range, List.mem_map, i64v, ptc, flat1]; try (intros; simp [valsB, valB, flat1]); try decide))
      exact ih1 (p + n) (show ((p + n) ≤ xs.length) ∧ (Sp.lnz xs (p + n) [] = Z) from ⟨by omega, by (rw [hn]; exact (Sp.lnz_n (by omega) (by simp) (by rw [← hrp]; first | assumption | (intro hh; simp [hh] at *))).trans hE)⟩) (show xs.length - (p + n) < xs.length - p from by omega)
  · have h1p : ¬ (((((xs.length - p) : Nat) : Int) > 0)) := by first | (simpa using h1) | (have h1q := h1; simp at h1q; omega) | (have h1q := bx2 h1; simp at h1q; omega)
    refine aw_p 237 (
      .a 2 1 <| .p (does_b false (h1)) <| .a 5 1 <| .nil _ _) ?_
    refine aw_fl 475 ?_
    refine aw_ex 0 ?_
    refine then_exit ?_
    refine then_exit ?_
    refine block_exit ?_
    refine then_normal ?_
    refine aw_p 31 (
      .a 2 1 <| .nil _ _) ?_
    refine aw_rt ?_
    exact en_ret [.slice none 0 0] rfl
theorem lines_some (xs : List Int) (hz : xs.length ≤ 9223372036854775807) (Z : List Row) (hZ0 : Sp.lnz xs 0 [] = Z) (hZ : Z ≠ []) :
    AC Try.prog 29 1 [.slice (some ⟨0, 0, none⟩) xs.length 0] [(0, ⟨(xs.map i64v), 3, false, 1⟩)] (.slice (some ⟨1, 0, none⟩) Z.length 0) (famQ 24 29 1 Z) := by
  refine acL 1 (by decide) Try.func29 (fun w0 W pin => ?_)
  refine aw_p 3 (
    .a 1 1 <| .nil _ _) ?_
  refine aw_p 7 (
    .a 1 1 <| .nil _ _) ?_
  refine aw_sq 14 15 ?_
  refine aw_bl 0 29 ?_
  refine aw_lp 59 ?_
  refine al_w [(0, .slice (some ⟨0, 0, none⟩) (xs.length - 0) 0), (3, .slice none 0 0)] [(0, ⟨(xs.map i64v), 3, false, 1⟩)] ?_ (hc := (by simp [closedB, valsB, valB, List.all_eq_true, List.mem_flatMap, List.mem_range, List.mem_map, i64v, ptc, flat1]; try (intros; simp [valsB, valB, flat1]); try decide))
  refine al_ind (fun i : Nat => (fun (p : Nat) => mkSt 1 [(0, .slice (some ⟨0, p, none⟩) (xs.length - p) 0), (3, .slice none 0 0)] [(0, ⟨(xs.map i64v), 3, false, 1⟩)]) i) (fun i : Nat => (fun (p : Nat) => (p ≤ xs.length) ∧ (Sp.lnz xs p [] = Z)) i) (fun i : Nat => (fun (p : Nat) => xs.length - p) i) (fun i hi1 ih1 => ?_) 0 (show (0 ≤ xs.length) ∧ (Sp.lnz xs 0 [] = Z) from ⟨by omega, by (exact hZ0)⟩)
  obtain ⟨p, hv1⟩ : ∃ z, z = i := ⟨i, rfl⟩; subst hv1
  have hi1' : (p ≤ xs.length) ∧ (Sp.lnz xs p [] = Z) := hi1
  obtain ⟨hp, hE⟩ := hi1'
  show AL _ _ _ (mkSt 1 [(0, .slice (some ⟨0, p, none⟩) (xs.length - p) 0), (3, .slice none 0 0)] [(0, ⟨(xs.map i64v), 3, false, 1⟩)]) _
  obtain ⟨n, hn⟩ : ∃ n, n = min (xs.length - p) 10 := ⟨_, rfl⟩
  obtain ⟨r, hrp⟩ : ∃ r, r = Sp.lnR xs p 10 := ⟨_, rfl⟩
  have hr8 : 2 ≤ r.length ∧ r.length ≤ 8 := (by rw [hrp, Sp.lnR_len]; omega)
  have hrr : r = Sp.lnL ((xs.drop p).take n) (n % 7 + 2) := (by rw [hrp, hn]; rfl)
  refine al_round ?_
  refine aw_sq 118 119 ?_
  rcases Bool.eq_false_or_eq_true (decide ((((xs.length - p) : Nat) : Int) > 0)) with h1 | h1
  · have h1p : (((((xs.length - p) : Nat) : Int) > 0)) := by first | (simpa using h1) | (have h1q := h1; simp at h1q; omega) | (have h1q := bx1 h1; simp at h1q; omega)
    refine aw_p 237 (
      .a 2 1 <| .p (does_b true (h1)) <| .a 5 1 <| .nil _ _) ?_
    refine aw_tr 474 ?_
    refine aw_sk ?_
    refine then_normal ?_
    refine aw_bl 1 239 ?_
    refine aw_p 479 (
      .a 2 1 <| .p (does_i ((n : Nat) : Int) ((show (Sp.mn (((xs.length - p) : Nat) : Int) 10) = ((n : Nat) : Int) from (by unfold Sp.mn; split <;> omega))) .i64) <| .a 1 1 <| .nil _ _) ?_
    refine aw_d 959 (
      .a 1 1 <| .p (does_c (clonenil_ok)) <| .a 2 1 <|
      .p (does_val (v' := .slice (some ⟨0, (p + 0), none⟩) n 0) (does_slice (t := 22) (x := .tmp 19) (lo := none) (hi := some (.tmp 20)) (k := 0) (off := p) (n := (xs.length - p)) (c := 0) (z := 1) (l := 0) (h := ((n : Nat) : Int)) (m := n) (b := ⟨(xs.map i64v), 3, false, 1⟩) (by kernel_rfl) (by kernel_rfl) (by kernel_rfl) (by kernel_rfl) (by kernel_rfl) (by kernel_rfl) (by kernel_rfl) (by kernel_rfl) (by omega) (by omega) (by omega) (by omega)) (by kernel_rfl)) <|
      .p (does_callB (x := .func 14) (ars := #[.tmp 21]) (ats := #[22]) (g := 14) (vs := [.slice (some ⟨0, (p + 0), none⟩) n 0]) (m := 1) (r := 1) (firsts := #[]) (caps := #[]) (args0 := [.slice (some ⟨0, (p + 0), none⟩) n 0]) (pre0 := [(0, ⟨(xs.map i64v), 3, false, 1⟩)]) (post0 := [(1, ⟨(r.flatMap ptc), 29, true, 2⟩)]) (pre := [(0, ⟨(xs.map i64v), 3, false, 1⟩)]) (post := [(1, ⟨(r.flatMap ptc), 29, true, 2⟩)]) (v0 := .slice (some ⟨1, 0, none⟩) r.length 0) (v := .slice (some ⟨1, 0, none⟩) r.length 0) [0, 1] (by kernel_rfl) (by kernel_rfl) (by kernel_rfl) (by kernel_rfl) (mlineat_ok xs (p + 0) n r (by omega) (by omega) hrr.symm) (.cons (.slice _ _ _ _ _ (by decide)) .nil) ⟨rfl, ⟨rfl, rfl, rfl, (.flats (flats_map (fun _ => rfl) _))⟩, trivial⟩ (by kernel_rfl) (by kernel_rfl) (by kernel_rfl) ⟨rfl, ⟨rfl, rfl, rfl, (.flats (flats_pair _))⟩, trivial⟩ (.slice _ _ _ _ _ (by decide))) <|
      .a 1 2 <| .p (does_ap 3) <| .a 1 4 <| .nil _ _) ?_
    refine aw_sq 1918 1919 ?_
    refine aw_p 3837 (
      .a 1 4 <|
      .p (does_fam 3 (fun _ => 1) #[.tmp 25] #[36] [.slice (some ⟨3, 0, none⟩) 1 0] (check_ok [r] (fun i => by match i with | 0 => exact Nat.le_trans hr8.2 (by decide) | i + 1 => simp) (by simp)) ⟨24, true, by kernel_rfl⟩ (fun j hj => by obtain rfl : j = 0 := (by simp at hj; omega); exact ⟨29, true, by kernel_rfl⟩) (show RenL (famS 3 (fun _ => 1)) (· < 1 + 1) [.slice (some ⟨0, 0, none⟩) 1 0] [.slice (some ⟨3, 0, none⟩) 1 0] from (.cons (.slice 0 _ _ _ _ (by show 0 < 1 + _; omega)) .nil))) <|
      .a 1 4 <| .nil _ _) ?_
    refine aw_cd 7674 7675 ((Sp.lnsE [r]) == 0) (fun h2 => ?_) (fun h2 => ?_)
    · have h2p : (((Sp.lnsE [r]) = 0)) := by first | (simpa using h2) | (have h2q := h2; simp at h2q; omega) | (have h2q := bx1 h2; simp at h2q; omega)
      refine aw_p1 (
        .a 2 4 <| .nil _ _) ?_
      refine then_normal ?_
      refine aw_p1 (
        .a 2 4 <|
        .p (does_val (v' := .slice (some ⟨0, (p + n * 1), none⟩) ((xs.length - p) - n) 0) (does_slice (t := 22) (x := .tmp 29) (lo := some (.tmp 30)) (hi := none) (k := 0) (off := p) (n := (xs.length - p)) (c := 0) (z := 1) (l := ((n : Nat) : Int)) (h := (((xs.length - p) : Nat) : Int)) (m := ((xs.length - p) - n)) (b := ⟨(xs.map i64v), 3, false, 1⟩) (by kernel_rfl) (by kernel_rfl) (by kernel_rfl) (by kernel_rfl) (by kernel_rfl) (by kernel_rfl) (by kernel_rfl) (by kernel_rfl) (by omega) (by omega) (by omega) (by omega)) (by kernel_rfl)) <|
        .a 1 4 <| .nil _ _) ?_
      refine block_normal ?_
      refine then_normal ?_
      have hS : Sp.lnsE ([] ++ [Sp.lnR xs p 10]) = 0 := (by rw [← hrp]; first | assumption | (simpa using h2))
      have hE2 : Sp.lnz xs (p + n) [r] = Z := (by rw [hn, hrp]; exact (Sp.lnz_y (by omega) (by first | omega | (simp; done)) hS).trans hE)
      refine al_weak (fam_snoc (b0 := ⟨(xs.map i64v), 3, false, 1⟩) (K := 1) (K0 := 3) (q := 1) (t := 3) (n := 1) (Y := []) (r := r) (TP := 29) (TH := 24) (T := [(0, .slice (some ⟨0, (p + n), none⟩) (xs.length - (p + n)) 0)]) rfl ⟨by decide, by decide⟩ ⟨by decide, by decide⟩ ⟨by decide, by decide, by decide⟩ (by kernel_rfl) (by rw [← Nat.sub_sub, show p + n = p + n * 1 from by omega]; kernel_rfl) (by kernel_rfl) (by kernel_rfl) rfl (flats_map (fun _ => rfl) _) (by kernel_rfl) (by kernel_rfl) (by intro j; kernel_rfl)) ?_
      refine al_wF [(0, .slice (some ⟨0, (p + n), none⟩) (xs.length - (p + n)) 0), (3, .slice (some ⟨1, 0, none⟩) ([r]).length 0)] [(0, ⟨(xs.map i64v), 3, false, 1⟩), (1, ⟨(hds (· + 200) ([r])), 24, true, 1⟩)] (famO 29 ([r])) ⟨(i64_cl _ _ _), (hds_cl _ _ _), trivial⟩ (famO_flat _ _) ?_
      refine al_ind (fun i : Nat × List Row => (fun (p : Nat) (Y : List Row) => mkF 1 [(0, .slice (some ⟨0, p, none⟩) (xs.length - p) 0), (3, .slice (some ⟨1, 0, none⟩) Y.length 0)] [(0, ⟨(xs.map i64v), 3, false, 1⟩), (1, ⟨(hds (· + 200) Y), 24, true, 1⟩)] (famO 29 Y)) i.1 i.2) (fun i : Nat × List Row => (fun (p : Nat) (Y : List Row) => (p ≤ xs.length) ∧ (Sp.lnsE Y = 0) ∧ (1 ≤ Y.length ∧ Y.length ≤ 5) ∧ (Sp.lnz xs p Y = Z)) i.1 i.2) (fun i : Nat × List Row => (fun (p : Nat) (Y : List Row) => xs.length - p) i.1 i.2) (fun i hi2 ih2 => ?_) ((p + n), ([r])) (show ((p + n) ≤ xs.length) ∧ (Sp.lnsE ([r]) = 0) ∧ (1 ≤ ([r]).length ∧ ([r]).length ≤ 5) ∧ (Sp.lnz xs (p + n) ([r]) = Z) from ⟨by omega, by (rw [hrp]; exact hS), by (simp), by (exact hE2)⟩)
      obtain ⟨p, Y⟩ := i
      have hi2' : (p ≤ xs.length) ∧ (Sp.lnsE Y = 0) ∧ (1 ≤ Y.length ∧ Y.length ≤ 5) ∧ (Sp.lnz xs p Y = Z) := hi2
      obtain ⟨hp, hW, hy, hE⟩ := hi2'
      show AL _ _ _ (mkF 1 [(0, .slice (some ⟨0, p, none⟩) (xs.length - p) 0), (3, .slice (some ⟨1, 0, none⟩) Y.length 0)] [(0, ⟨(xs.map i64v), 3, false, 1⟩), (1, ⟨(hds (· + 200) Y), 24, true, 1⟩)] (famO 29 Y)) _
      obtain ⟨n, hn⟩ : ∃ n, n = min (xs.length - p) 10 := ⟨_, rfl⟩
      obtain ⟨r, hrp⟩ : ∃ r, r = Sp.lnR xs p 10 := ⟨_, rfl⟩
      have hr8 : 2 ≤ r.length ∧ r.length ≤ 8 := (by rw [hrp, Sp.lnR_len]; omega)
      have hrr : r = Sp.lnL ((xs.drop p).take n) (n % 7 + 2) := (by rw [hrp, hn]; rfl)
      have hw8 : ∀ i, (Y.getD i []).length ≤ 200 := (fun i => by obtain ⟨_, ho, _, _⟩ := Sp.lns_ok hW; by_cases hi : i < Y.length; exact (Sp.rowE_0 (ho i hi)).2.1; rw [List.getD_eq_getElem?_getD, List.getElem?_eq_none_iff.2 (by omega)]; simp)
      refine al_round ?_
      refine aw_sq 118 119 ?_
      rcases Bool.eq_false_or_eq_true (decide ((((xs.length - p) : Nat) : Int) > 0)) with h3 | h3
      · have h3p : (((((xs.length - p) : Nat) : Int) > 0)) := by first | (simpa using h3) | (have h3q := h3; simp at h3q; omega) | (have h3q := bx1 h3; simp at h3q; omega)
        refine aw_p 237 (
          .a 2 4 <| .p (does_b true (h3)) <| .a 5 4 <| .nil _ _) ?_
        refine aw_cd 474 475 (decide (((Y.length : Nat) : Int) < 5)) (fun h4 => ?_) (fun h4 => ?_)
        · have h4p : ((((Y.length : Nat) : Int) < 5)) := by first | (simpa using h4) | (have h4q := h4; simp at h4q; omega) | (have h4q := bx1 h4; simp at h4q; omega)
          refine aw_sk ?_
          refine then_normal ?_
          refine aw_bl 1 239 ?_
          refine aw_p 479 (
            .a 2 4 <| .p (does_i ((n : Nat) : Int) ((show (Sp.mn (((xs.length - p) : Nat) : Int) 10) = ((n : Nat) : Int) from (by unfold Sp.mn; split <;> omega))) .i64) <| .a 1 4 <| .nil _ _) ?_
          refine aw_dL 959 1 [1] ((List.range Y.length).map (· + 200)) [4] (ge200 _) (
            .a 1 4 <| .p (does_cloneH 1 4 (e := 24) (o := true) (TH := 24) (TP := 29) #[.tmp 17] #[36] [.slice (some ⟨1, 0, none⟩) Y.length 0] (cloneh_ok Y (by omega)) (by kernel_rfl) (fun j hj => Eq.trans (b := famO 29 Y (j + 200)) (by kernel_rfl) (famO_at hj)) rfl) <| .a 2 5 <|
            .p (does_val (v' := .slice (some ⟨0, (p + 0), none⟩) n 0) (does_slice (t := 22) (x := .tmp 19) (lo := none) (hi := some (.tmp 20)) (k := 0) (off := p) (n := (xs.length - p)) (c := 0) (z := 1) (l := 0) (h := ((n : Nat) : Int)) (m := n) (b := ⟨(xs.map i64v), 3, false, 1⟩) (by kernel_rfl) (by kernel_rfl) (by kernel_rfl) (by kernel_rfl) (by kernel_rfl) (by kernel_rfl) (by kernel_rfl) (by kernel_rfl) (by omega) (by omega) (by omega) (by omega)) (by kernel_rfl)) <|
            .p (does_callB (x := .func 14) (ars := #[.tmp 21]) (ats := #[22]) (g := 14) (vs := [.slice (some ⟨0, (p + 0), none⟩) n 0]) (m := 1) (r := 1) (firsts := #[]) (caps := #[]) (args0 := [.slice (some ⟨0, (p + 0), none⟩) n 0]) (pre0 := [(0, ⟨(xs.map i64v), 3, false, 1⟩)]) (post0 := [(1, ⟨(r.flatMap ptc), 29, true, 2⟩)]) (pre := [(0, ⟨(xs.map i64v), 3, false, 1⟩)]) (post := [(5, ⟨(r.flatMap ptc), 29, true, 2⟩)]) (v0 := .slice (some ⟨1, 0, none⟩) r.length 0) (v := .slice (some ⟨5, 0, none⟩) r.length 0) [0, 5] (by kernel_rfl) (by kernel_rfl) (by kernel_rfl) (by kernel_rfl) (mlineat_ok xs (p + 0) n r (by omega) (by omega) hrr.symm) (.cons (.slice _ _ _ _ _ (by decide)) .nil) ⟨rfl, ⟨rfl, rfl, rfl, (.flats (flats_map (fun _ => rfl) _))⟩, trivial⟩ (by kernel_rfl) (by kernel_rfl) (by kernel_rfl) ⟨rfl, ⟨rfl, rfl, rfl, (.flats (flats_pair _))⟩, trivial⟩ (.slice _ _ _ _ _ (by decide))) <|
            .a 1 6 <|
            .p (does_apy 7 24 1 24 4 Y.length 6 1 ⟨(hds (· + 200) Y), 24, true, 1⟩ ⟨[.slice (some ⟨5, 0, none⟩) r.length 0], 24, true, 1⟩ ((hds (· + 200) Y) ++ [.slice (some ⟨5, 0, none⟩) r.length 0]) (by kernel_rfl) (by kernel_rfl) (by kernel_rfl) (by kernel_rfl) (by kernel_rfl) (by rw [hds_len]; omega) (by omega) (by omega) rfl) <|
            .a 1 8 <| .nil _ _) ?_
          refine aw_sq 1918 1919 ?_
          refine aw_p 3837 (
            .a 1 8 <|
            .p (does_fam 7 (fun j => if j = Y.length then 5 else j + 200) #[.tmp 25] #[36] [.slice (some ⟨7, 0, none⟩) (Y.length + 1) 0] ((by have h := check_ok (Y ++ [r]) (fun i => by rw [app_getD]; split; exact Nat.le_trans hr8.2 (by decide); exact Nat.le_trans (hw8 i) (by decide)) (by simp; omega); rw [show (Y ++ [r]).length = Y.length + 1 from by simp] at h; exact h)) ⟨24, true, by rw [← hds_snoc]; kernel_rfl⟩ (snoc_rows (TP := 29) (by kernel_rfl) (by intro j; kernel_rfl)) (show RenL (famS 7 (fun j => if j = Y.length then 5 else j + 200)) (· < 1 + (Y.length + 1)) [.slice (some ⟨0, 0, none⟩) (Y.length + 1) 0] [.slice (some ⟨7, 0, none⟩) (Y.length + 1) 0] from (.cons (.slice 0 _ _ _ _ (by show 0 < 1 + _; omega)) .nil)) (hn := by simp)) <|
            .a 1 8 <| .nil _ _) ?_
          refine aw_cd 7674 7675 ((Sp.lnsE (Y ++ [r])) == 0) (fun h5 => ?_) (fun h5 => ?_)
          · have h5p : (((Sp.lnsE (Y ++ [r])) = 0)) := by first | (simpa using h5) | (have h5q := h5; simp at h5q; omega) | (have h5q := bx1 h5; simp at h5q; omega)
            refine aw_p1 (
              .a 2 8 <| .nil _ _) ?_
            refine then_normal ?_
            refine aw_p1 (
              .a 2 8 <|
              .p (does_val (v' := .slice (some ⟨0, (p + n * 1), none⟩) ((xs.length - p) - n) 0) (does_slice (t := 22) (x := .tmp 29) (lo := some (.tmp 30)) (hi := none) (k := 0) (off := p) (n := (xs.length - p)) (c := 0) (z := 1) (l := ((n : Nat) : Int)) (h := (((xs.length - p) : Nat) : Int)) (m := ((xs.length - p) - n)) (b := ⟨(xs.map i64v), 3, false, 1⟩) (by kernel_rfl) (by kernel_rfl) (by kernel_rfl) (by kernel_rfl) (by kernel_rfl) (by kernel_rfl) (by kernel_rfl) (by kernel_rfl) (by omega) (by omega) (by omega) (by omega)) (by kernel_rfl)) <|
              .a 1 8 <| .nil _ _) ?_
            refine block_normal ?_
            refine then_normal ?_
            have hS : Sp.lnsE (Y ++ [Sp.lnR xs p 10]) = 0 := (by rw [← hrp]; first | assumption | (simpa using h5))
            have hE2 : Sp.lnz xs (p + n) (Y ++ [r]) = Z := (by rw [hn, hrp]; exact (Sp.lnz_y (by omega) (by first | omega | (simp; done)) hS).trans hE)
            refine al_weak (fam_snoc (b0 := ⟨(xs.map i64v), 3, false, 1⟩) (K := 1) (K0 := 7) (q := 5) (t := 3) (n := (Y.length + 1)) (Y := Y) (r := r) (TP := 29) (TH := 24) (T := [(0, .slice (some ⟨0, (p + n), none⟩) (xs.length - (p + n)) 0)]) rfl ⟨by decide, by decide⟩ ⟨by decide, by decide⟩ ⟨by decide, by decide, by decide⟩ (by kernel_rfl) (by rw [← Nat.sub_sub, show p + n = p + n * 1 from by omega]; kernel_rfl) (by kernel_rfl) (by kernel_rfl) rfl (flats_map (fun _ => rfl) _) (by kernel_rfl) (by kernel_rfl) (by intro j; kernel_rfl)) ?_
            have hyl : (Y ++ [r]).length = Y.length + 1 := (by simp)
            refine al_wF [(0, .slice (some ⟨0, (p + n), none⟩) (xs.length - (p + n)) 0), (3, .slice (some ⟨1, 0, none⟩) ((Y ++ [r]).length) 0)] [(0, ⟨(xs.map i64v), 3, false, 1⟩), (1, ⟨(hds (· + 200) (Y ++ [r])), 24, true, 1⟩)] (famO 29 (Y ++ [r])) ⟨(i64_cl _ _ _), (hds_cl _ _ _), trivial⟩ (famO_flat _ _) ?_ (by rw [hyl]; kernel_rfl)
            exact ih2 ((p + n), (Y ++ [r])) (show ((p + n) ≤ xs.length) ∧ (Sp.lnsE (Y ++ [r]) = 0) ∧ (1 ≤ (Y ++ [r]).length ∧ (Y ++ [r]).length ≤ 5) ∧ (Sp.lnz xs (p + n) (Y ++ [r]) = Z) from ⟨by omega, by rw [hrp]; exact hS, by rw [hyl]; omega, hE2⟩) (show xs.length - (p + n) < xs.length - p from by omega)
          · have h5p : ¬ (((Sp.lnsE (Y ++ [r])) = 0)) := by first | (simpa using h5) | (have h5q := h5; simp at h5q; omega) | (have h5q := bx2 h5; simp at h5q; omega)
            refine aw_sk ?_
            refine then_normal ?_
            refine aw_p1 (
              .a 2 8 <|
              .p (does_val (v' := .slice (some ⟨0, (p + n * 1), none⟩) ((xs.length - p) - n) 0) (does_slice (t := 22) (x := .tmp 29) (lo := some (.tmp 30)) (hi := none) (k := 0) (off := p) (n := (xs.length - p)) (c := 0) (z := 1) (l := ((n : Nat) : Int)) (h := (((xs.length - p) : Nat) : Int)) (m := ((xs.length - p) - n)) (b := ⟨(xs.map i64v), 3, false, 1⟩) (by kernel_rfl) (by kernel_rfl) (by kernel_rfl) (by kernel_rfl) (by kernel_rfl) (by kernel_rfl) (by kernel_rfl) (by kernel_rfl) (by omega) (by omega) (by omega) (by omega)) (by kernel_rfl)) <|
              .a 1 8 <| .nil _ _) ?_
            refine block_normal ?_
            refine then_normal ?_
            refine al_wF [(0, .slice (some ⟨0, (p + n), none⟩) (xs.length - (p + n)) 0), (3, .slice (some ⟨1, 0, none⟩) Y.length 0)] [(0, ⟨(xs.map i64v), 3, false, 1⟩), (1, ⟨(hds (· + 200) Y), 24, true, 1⟩)] (famO 29 Y) ⟨(i64_cl _ _ _), (hds_cl _ _ _), trivial⟩ (famO_flat _ _) ?_ (by rw [← Nat.sub_sub, show p + n = p + n * 1 from by omega]; kernel_rfl)
            refine al_wF [(0, .slice (some ⟨0, (p + n), none⟩) (xs.length - (p + n)) 0), (3, .slice (some ⟨1, 0, none⟩) Y.length 0)] [(0, ⟨(xs.map i64v), 3, false, 1⟩), (1, ⟨(hds (· + 200) Y), 24, true, 1⟩)] (famO 29 Y) ⟨(i64_cl _ _ _), (hds_cl _ _ _), trivial⟩ (famO_flat _ _) ?_
            exact ih2 ((p + n), Y) (show ((p + n) ≤ xs.length) ∧ (Sp.lnsE Y = 0) ∧ (1 ≤ Y.length ∧ Y.length ≤ 5) ∧ (Sp.lnz xs (p + n) Y = Z) from ⟨by omega, by (exact hW), by omega, by (rw [hn]; exact (Sp.lnz_n (by omega) (by omega) (by rw [← hrp]; first | assumption | (intro hh; simp [hh] at *))).trans hE)⟩) (show xs.length - (p + n) < xs.length - p from by omega)
        · have h4p : ¬ ((((Y.length : Nat) : Int) < 5)) := by first | (simpa using h4) | (have h4q := h4; simp at h4q; omega) | (have h4q := bx2 h4; simp at h4q; omega)
          refine aw_ex 0 ?_
          refine then_exit ?_
          refine then_exit ?_
          refine block_exit ?_
          refine then_normal ?_
          refine aw_p 31 (
            .a 2 4 <| .nil _ _) ?_
          refine aw_rt ?_
          have hZY : Y = Z := (Sp.lnz_end (by omega)).symm.trans hE
          subst hZY
          exact enF_ret [.slice (some ⟨1, 0, none⟩) Y.length 0] ⟨rfl, (by kernel_rfl), fun j hj => Eq.trans (b := famO 29 Y (j + 200)) (by kernel_rfl) (famO_at hj)⟩
      · have h3p : ¬ (((((xs.length - p) : Nat) : Int) > 0)) := by first | (simpa using h3) | (have h3q := h3; simp at h3q; omega) | (have h3q := bx2 h3; simp at h3q; omega)
        refine aw_p 237 (
          .a 2 4 <| .p (does_b false (h3)) <| .a 5 4 <| .nil _ _) ?_
        refine aw_fl 475 ?_
        refine aw_ex 0 ?_
        refine then_exit ?_
        refine then_exit ?_
        refine block_exit ?_
        refine then_normal ?_
        refine aw_p 31 (
          .a 2 4 <| .nil _ _) ?_
        refine aw_rt ?_
        have hZY : Y = Z := (Sp.lnz_end (by omega)).symm.trans hE
        subst hZY
        exact enF_ret [.slice (some ⟨1, 0, none⟩) Y.length 0] ⟨rfl, (by kernel_rfl), fun j hj => Eq.trans (b := famO 29 Y (j + 200)) (by kernel_rfl) (famO_at hj)⟩
    · have h2p : ¬ (((Sp.lnsE [r]) = 0)) := by first | (simpa using h2) | (have h2q := h2; simp at h2q; omega) | (have h2q := bx2 h2; simp at h2q; omega)
      refine aw_sk ?_
      refine then_normal ?_
      refine aw_p1 (
        .a 2 4 <|
        .p (does_val (v' := .slice (some ⟨0, (p + n * 1), none⟩) ((xs.length - p) - n) 0) (does_slice (t := 22) (x := .tmp 29) (lo := some (.tmp 30)) (hi := none) (k := 0) (off := p) (n := (xs.length - p)) (c := 0) (z := 1) (l := ((n : Nat) : Int)) (h := (((xs.length - p) : Nat) : Int)) (m := ((xs.length - p) - n)) (b := ⟨(xs.map i64v), 3, false, 1⟩) (by kernel_rfl) (by kernel_rfl) (by kernel_rfl) (by kernel_rfl) (by kernel_rfl) (by kernel_rfl) (by kernel_rfl) (by kernel_rfl) (by omega) (by omega) (by omega) (by omega)) (by kernel_rfl)) <|
        .a 1 4 <| .nil _ _) ?_
      refine block_normal ?_
      refine then_normal ?_
      refine al_w [(0, .slice (some ⟨0, (p + n), none⟩) (xs.length - (p + n)) 0), (3, .slice none 0 0)] [(0, ⟨(xs.map i64v), 3, false, 1⟩)] ?_ (by rw [← Nat.sub_sub, show p + n = p + n * 1 from by omega]; kernel_rfl) (hc := (by simp [closedB, valsB, valB, List.all_eq_true, List.mem_flatMap, List.mem_range, List.mem_map, i64v, ptc, flat1]; try (intros; simp [valsB, valB, flat1]); try decide))
      refine al_w [(0, .slice (some ⟨0, (p + n), none⟩) (xs.length - (p + n)) 0), (3, .slice none 0 0)] [(0, ⟨(xs.map i64v), 3, false, 1⟩)] ?_ (hc := (by simp [closedB, valsB, valB, List.all_eq_true, List.mem_flatMap, List.mem_range, List.mem_map, i64v, ptc, flat1]; try (intros; simp [valsB, valB, flat1]); try decide))
      exact ih1 (p + n) (show ((p + n) ≤ xs.length) ∧ (Sp.lnz xs (p + n) [] = Z) from ⟨by omega, by (rw [hn]; exact (Sp.lnz_n (by omega) (by simp) (by rw [← hrp]; first | assumption | (intro hh; simp [hh] at *))).trans hE)⟩) (show xs.length - (p + n) < xs.length - p from by omega)
  · have h1p : ¬ (((((xs.length - p) : Nat) : Int) > 0)) := by first | (simpa using h1) | (have h1q := h1; simp at h1q; omega) | (have h1q := bx2 h1; simp at h1q; omega)
    refine aw_p 237 (
      .a 2 1 <| .p (does_b false (h1)) <| .a 5 1 <| .nil _ _) ?_
    refine aw_fl 475 ?_
    refine aw_ex 0 ?_
    refine then_exit ?_
    refine then_exit ?_
    refine block_exit ?_
    refine then_normal ?_
    refine aw_p 31 (
      .a 2 1 <| .nil _ _) ?_
    refine aw_rt ?_
    exact absurd (hE.symm.trans (Sp.lnz_end (by omega))) hZ
end Go.Proofs.Ytadifmimefmcnaa.Am
