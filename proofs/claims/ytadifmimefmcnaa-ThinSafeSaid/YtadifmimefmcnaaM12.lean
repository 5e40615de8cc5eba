import Derived.Test.YtadifmimefmcnaaProg
import Derived.Test.YtadifmimefmcnaaM2
import Derived.Test.YtadifmimefmcnaaM11
import Derived.Test.YtadifmimefmcnaaM5
import Derived.Test.YtadifmimefmcnaaM3
namespace Go.Proofs.Ytadifmimefmcnaa.Am
open Go Go.Proofs
set_option maxRecDepth 100000
set_option maxHeartbeats 4000000
set_option linter.unusedVariables false
set_option linter.unusedSimpArgs false
theorem nearl_ro (ps : List (Int × Int)) (x y by_ : Int) (k : Nat) (hf : Sp.Few 1048576 ps) (hz : ps.length ≤ 8796093021952) (hk : k + 1 < ps.length) (hw : Sp.wthn x y (ps.getD k (0, 0)).1 (ps.getD k (0, 0)).2 (ps.getD (k + 1) (0, 0)).1 (ps.getD (k + 1) (0, 0)).2 by_ = true) (xl : -1048576 ≤ x) (xu : x ≤ 1048576) (yl : -1048576 ≤ y) (yu : y ≤ 1048576) :
    AC Try.prog 18 1 ([.slice (some ⟨0, 0, none⟩) ps.length 0, .agg #[.int .i64 x, .int .i64 y], .int .i64 by_]) [(0, ⟨(ps.flatMap ptc), 29, false, 2⟩)] (.bool true) [] := by
  refine ac_in Try.func18 (fun w0 W pin => ?_)
  refine aw_p 3 (
    .a 2 1 <| .nil _ _) ?_
  refine aw_sq 6 7 ?_
  refine aw_p 13 (
    .a 1 2 <| .nil _ _) ?_
  refine aw_bl 0 27 ?_
  refine aw_lp 55 ?_
  refine al_w [(0, .slice (some ⟨0, 0, none⟩) ps.length 0), (2, .int .i64 by_), (4, .pointer (some ⟨1, 0, none⟩)), (6, .bool false), (7, .int .i64 ((1 : Nat) : Int))] [(0, ⟨(ps.flatMap ptc), 29, false, 2⟩), (1, ⟨[.int .i64 x, .int .i64 y], 29, true, 2⟩)] ?_ (hc := (by simp [closedB, valsB, valB, List.all_eq_true, List.mem_flatMap, List.mem_range, List.mem_map, i64v, ptc, flat1]; try (intros; simp [valsB, valB, flat1]); try decide))
  refine al_ind (fun i : Nat => (fun (i : Nat) => mkSt 1 [(0, .slice (some ⟨0, 0, none⟩) ps.length 0), (2, .int .i64 by_), (4, .pointer (some ⟨1, 0, none⟩)), (6, .bool false), (7, .int .i64 ((i : Nat) : Int))] [(0, ⟨(ps.flatMap ptc), 29, false, 2⟩), (1, ⟨[.int .i64 x, .int .i64 y], 29, true, 2⟩)]) i) (fun i : Nat => (fun (i : Nat) => (1 ≤ i ∧ i ≤ k + 1)) i) (fun i : Nat => (fun (i : Nat) => ps.length - i) i) (fun i hi1 ih1 => ?_) 1 (show (1 ≤ 1 ∧ 1 ≤ k + 1) from by omega)
  obtain ⟨i, hv1⟩ : ∃ z, z = i := ⟨i, rfl⟩; subst hv1
  have hi1' : (1 ≤ i ∧ i ≤ k + 1) := hi1
  have hi : 1 ≤ i ∧ i ≤ k + 1 := hi1'
  show AL _ _ _ (mkSt 1 [(0, .slice (some ⟨0, 0, none⟩) ps.length 0), (2, .int .i64 by_), (4, .pointer (some ⟨1, 0, none⟩)), (6, .bool false), (7, .int .i64 ((i : Nat) : Int))] [(0, ⟨(ps.flatMap ptc), 29, false, 2⟩), (1, ⟨[.int .i64 x, .int .i64 y], 29, true, 2⟩)]) _
  have fi := hf i; have fj := hf (i - 1)
  refine al_round ?_
  refine aw_sq 110 111 ?_
  refine aw_p 221 (
    .a 3 2 <| .p (does_b true ((show (decide (((i : Nat) : Int) < ((ps.length : Nat) : Int))) = true from decide_eq_true (by omega)))) <| .nil _ _) ?_
  refine aw_tr 442 ?_
  refine aw_sk ?_
  refine then_normal ?_
  refine aw_sq 222 223 ?_
  refine aw_bl 1 445 ?_
  refine aw_d 891 (
    .a 3 2 <| .p (does_i ((i - 1 : Nat) : Int) ((show (IntKind.wrap .i64 (((i : Nat) : Int) - 1)) = ((i - 1 : Nat) : Int) from ((wrap_i64 (by omega) (by omega)).trans (by omega)))) .i64) <|
    .p (does_indexSlice (t := 24) (x := .tmp 15) (y := .tmp 17) (k := 0) (off := 0) (n := ps.length) (c := 0) (z := 2) (kd := .i64) (j := ((i - 1 : Nat) : Int)) (by kernel_rfl) (by kernel_rfl) (by kernel_rfl) (by kernel_rfl) (by kernel_rfl) (by omega) (by omega)) <|
    .p (does_load (t := 29) (x := .tmp 18) (k := 0) (off := (0 + (((i - 1 : Nat) : Int)).toNat * 2)) (b := ⟨(ps.flatMap ptc), 29, false, 2⟩) (v := .agg #[.int .i64 ((ps.getD (i - 1) (0, 0)).1), .int .i64 ((ps.getD (i - 1) (0, 0)).2)]) (by kernel_rfl) (by kernel_rfl) (by kernel_rfl) (ldV_pair (j := (i - 1)) (by kernel_rfl) (by kernel_rfl) (by omega) (by omega))) <|
    .a 2 2 <| .p (does_indexSlice (t := 24) (x := .tmp 20) (y := .tmp 21) (k := 0) (off := 0) (n := ps.length) (c := 0) (z := 2) (kd := .i64) (j := ((i : Nat) : Int)) (by kernel_rfl) (by kernel_rfl) (by kernel_rfl) (by kernel_rfl) (by kernel_rfl) (by omega) (by omega)) <|
    .p (does_load (t := 29) (x := .tmp 22) (k := 0) (off := (0 + (((i : Nat) : Int)).toNat * 2)) (b := ⟨(ps.flatMap ptc), 29, false, 2⟩) (v := .agg #[.int .i64 ((ps.getD i (0, 0)).1), .int .i64 ((ps.getD i (0, 0)).2)]) (by kernel_rfl) (by kernel_rfl) (by kernel_rfl) (ldV_pair (j := i) (by kernel_rfl) (by kernel_rfl) (by omega) (by omega))) <|
    .a 1 2 <| .p (does_c (within_in x y ((ps.getD (i - 1) (0, 0)).1) ((ps.getD (i - 1) (0, 0)).2) ((ps.getD i (0, 0)).1) ((ps.getD i (0, 0)).2) by_ (by omega) (by omega) (by omega) (by omega) (by omega) (by omega) (by omega) (by omega) (by omega) (by omega) (by omega) (by omega))) <| .nil _ _) ?_
  refine aw_cd 1782 1783 (Sp.wthn x y ((ps.getD (i - 1) (0, 0)).1) ((ps.getD (i - 1) (0, 0)).2) ((ps.getD i (0, 0)).1) ((ps.getD i (0, 0)).2) by_) (fun h1 => ?_) (fun h1 => ?_)
  · refine aw_p 3565 (
      .a 1 2 <| .nil _ _) ?_
    refine aw_rt ?_
    refine block_ret ?_
    refine then_ret ?_
    refine then_ret ?_
    refine block_ret ?_
    refine then_ret ?_
    exact en_ret [.bool true] (by kernel_rfl)
  · refine aw_sk ?_
    refine block_normal ?_
    refine then_normal ?_
    refine aw_p1 (
      .a 1 2 <| .p (does_i (((i : Nat) : Int) + 1) (wrap_i64 (by omega) (by omega)) .i64) <| .a 1 2 <| .nil _ _) ?_
    refine then_normal ?_
    refine al_w [(0, .slice (some ⟨0, 0, none⟩) ps.length 0), (2, .int .i64 by_), (4, .pointer (some ⟨1, 0, none⟩)), (6, .bool false), (7, .int .i64 (((i + 1) : Nat) : Int))] [(0, ⟨(ps.flatMap ptc), 29, false, 2⟩), (1, ⟨[.int .i64 x, .int .i64 y], 29, true, 2⟩)] ?_ (hc := (by simp [closedB, valsB, valB, List.all_eq_true, List.mem_flatMap, List.mem_range, List.mem_map, i64v, ptc, flat1]; try (intros; simp [valsB, valB, flat1]); try decide))
    exact ih1 (i + 1) (show (1 ≤ (i + 1) ∧ (i + 1) ≤ k + 1) from by (exact ⟨by omega, Sp.nl_next hi (by assumption) hw⟩)) (show ps.length - (i + 1) < ps.length - i from by omega)
end Go.Proofs.Ytadifmimefmcnaa.Am

namespace Go.Proofs.Ytadifmimefmcnaa.Am
open Go Go.Proofs
set_option maxRecDepth 100000
set_option maxHeartbeats 4000000
set_option linter.unusedVariables false
set_option linter.unusedSimpArgs false
theorem au_segBegun_1  :
    AC Try.prog 53 0 ([.int .i64 0, .int .i64 0]) [] (.agg #[.int .i64 0, .int .i64 0]) [] := by
  refine ac_in Try.func53 (fun w0 W pin => ?_)
  refine aw_p 3 (
    .a 1 1 <| .nil _ _) ?_
  refine aw_p 7 (
    .a 4 2 <| .nil _ _) ?_
  refine aw_rt ?_
  exact en_ret [.agg #[.int .i64 0, .int .i64 0]] (by kernel_rfl)
theorem au_segBegun_2  :
    AC Try.prog 53 0 ([.int .i64 2, .int .i64 0]) [] (.agg #[.int .i64 2, .int .i64 0]) [] := by
  refine ac_in Try.func53 (fun w0 W pin => ?_)
  refine aw_p 3 (
    .a 1 1 <| .nil _ _) ?_
  refine aw_p 7 (
    .a 4 2 <| .nil _ _) ?_
  refine aw_rt ?_
  exact en_ret [.agg #[.int .i64 2, .int .i64 0]] (by kernel_rfl)
theorem au_segBegun_3  :
    AC Try.prog 53 0 ([.int .i64 1, .int .i64 1]) [] (.agg #[.int .i64 1, .int .i64 1]) [] := by
  refine ac_in Try.func53 (fun w0 W pin => ?_)
  refine aw_p 3 (
    .a 1 1 <| .nil _ _) ?_
  refine aw_p 7 (
    .a 4 2 <| .nil _ _) ?_
  refine aw_rt ?_
  exact en_ret [.agg #[.int .i64 1, .int .i64 1]] (by kernel_rfl)
theorem au_segBegun_4  :
    AC Try.prog 101 0 ([.int .i64 0, .int .i64 1048576]) [] (.int .i64 0) [] := by
  refine ac_in Try.func101 (fun w0 W pin => ?_)
  refine aw_p 3 (
    .a 1 1 <| .nil _ _) ?_
  refine aw_p 7 (
    .a 7 1 <| .nil _ _) ?_
  refine aw_rt ?_
  exact en_ret [.int .i64 0] (by kernel_rfl)
theorem au_segBegun_5  :
    AC Try.prog 56 0 ([.agg #[.int .i64 0, .int .i64 0]]) [] (.agg #[.int .i64 0, .int .i64 0]) [] := by
  refine ac_in Try.func56 (fun w0 W pin => ?_)
  refine aw_p 3 (
    .a 2 1 <| .nil _ _) ?_
  refine aw_d 7 (
    .a 2 3 <| .p (does_c (au_segBegun_4)) <| .a 2 3 <| .p (does_c (au_segBegun_4)) <| .a 2 3 <| .nil _ _) ?_
  refine aw_rt ?_
  exact en_ret [.agg #[.int .i64 0, .int .i64 0]] (by kernel_rfl)
theorem au_segBegun_6  :
    AC Try.prog 101 0 ([.int .i64 2, .int .i64 1048576]) [] (.int .i64 2) [] := by
  refine ac_in Try.func101 (fun w0 W pin => ?_)
  refine aw_p 3 (
    .a 1 1 <| .nil _ _) ?_
  refine aw_p 7 (
    .a 7 1 <| .nil _ _) ?_
  refine aw_rt ?_
  exact en_ret [.int .i64 2] (by kernel_rfl)
theorem au_segBegun_7  :
    AC Try.prog 56 0 ([.agg #[.int .i64 2, .int .i64 0]]) [] (.agg #[.int .i64 2, .int .i64 0]) [] := by
  refine ac_in Try.func56 (fun w0 W pin => ?_)
  refine aw_p 3 (
    .a 2 1 <| .nil _ _) ?_
  refine aw_d 7 (
    .a 2 3 <| .p (does_c (au_segBegun_6)) <| .a 2 3 <| .p (does_c (au_segBegun_4)) <| .a 2 3 <| .nil _ _) ?_
  refine aw_rt ?_
  exact en_ret [.agg #[.int .i64 2, .int .i64 0]] (by kernel_rfl)
theorem au_segBegun_8  :
    AC Try.prog 117 0 ([.agg #[.int .i64 0, .int .i64 0], .agg #[.int .i64 2, .int .i64 0]]) [] (.agg #[.int .i64 2, .int .i64 0]) [] := by
  refine ac_in Try.func117 (fun w0 W pin => ?_)
  refine aw_p 3 (
    .a 3 1 <| .nil _ _) ?_
  refine aw_d 7 (
    .a 1 4 <| .p (does_c (au_segBegun_5)) <| .a 1 4 <| .p (does_c (au_segBegun_7)) <| .a 2 4 <| .nil _ _) ?_
  refine aw_p 15 (
    .a 12 4 <| .nil _ _) ?_
  refine aw_rt ?_
  exact en_ret [.agg #[.int .i64 2, .int .i64 0]] (by kernel_rfl)
theorem au_segBegun_9  :
    AC Try.prog 101 0 ([.int .i64 1, .int .i64 1048576]) [] (.int .i64 1) [] := by
  refine ac_in Try.func101 (fun w0 W pin => ?_)
  refine aw_p 3 (
    .a 1 1 <| .nil _ _) ?_
  refine aw_p 7 (
    .a 7 1 <| .nil _ _) ?_
  refine aw_rt ?_
  exact en_ret [.int .i64 1] (by kernel_rfl)
theorem au_segBegun_10  :
    AC Try.prog 56 0 ([.agg #[.int .i64 1, .int .i64 1]]) [] (.agg #[.int .i64 1, .int .i64 1]) [] := by
  refine ac_in Try.func56 (fun w0 W pin => ?_)
  refine aw_p 3 (
    .a 2 1 <| .nil _ _) ?_
  refine aw_d 7 (
    .a 2 3 <| .p (does_c (au_segBegun_9)) <| .a 2 3 <| .p (does_c (au_segBegun_9)) <| .a 2 3 <| .nil _ _) ?_
  refine aw_rt ?_
  exact en_ret [.agg #[.int .i64 1, .int .i64 1]] (by kernel_rfl)
theorem au_segBegun_11  :
    AC Try.prog 117 0 ([.agg #[.int .i64 0, .int .i64 0], .agg #[.int .i64 1, .int .i64 1]]) [] (.agg #[.int .i64 1, .int .i64 1]) [] := by
  refine ac_in Try.func117 (fun w0 W pin => ?_)
  refine aw_p 3 (
    .a 3 1 <| .nil _ _) ?_
  refine aw_d 7 (
    .a 1 4 <| .p (does_c (au_segBegun_5)) <| .a 1 4 <| .p (does_c (au_segBegun_10)) <| .a 2 4 <| .nil _ _) ?_
  refine aw_p 15 (
    .a 12 4 <| .nil _ _) ?_
  refine aw_rt ?_
  exact en_ret [.agg #[.int .i64 1, .int .i64 1]] (by kernel_rfl)
theorem au_segBegun_12  :
    AC Try.prog 80 0 ([.agg #[.int .i64 0, .int .i64 0], .agg #[.int .i64 2, .int .i64 0], .agg #[.int .i64 1, .int .i64 1]]) [] (.int .i64 2) [] := by
  refine ac_in Try.func80 (fun w0 W pin => ?_)
  refine aw_p 3 (
    .a 4 1 <| .nil _ _) ?_
  refine aw_d 7 (
    .a 2 4 <| .p (does_c (au_segBegun_8)) <| .a 2 4 <| .p (does_c (au_segBegun_11)) <| .a 4 4 <| .nil _ _) ?_
  refine aw_p 15 (
    .a 12 6 <| .nil _ _) ?_
  refine aw_w [(6, .int .i64 2)] [] ?_
  refine aw_rt ?_
  exact en_ret [.int .i64 2] (by kernel_rfl)
theorem au_segBegun_13  :
    AC Try.prog 116 0 ([.int .i64 2]) [] (.bool false) [] := by
  refine ac_in Try.func116 (fun w0 W pin => ?_)
  refine aw_p 3 (
    .a 1 1 <| .nil _ _) ?_
  refine aw_p 7 (
    .a 4 1 <| .nil _ _) ?_
  refine aw_rt ?_
  exact en_ret [.bool false] (by kernel_rfl)
theorem au_segBegun_14  :
    AC Try.prog 116 0 ([.int .i64 0]) [] (.bool false) [] := by
  refine ac_in Try.func116 (fun w0 W pin => ?_)
  refine aw_p 3 (
    .a 1 1 <| .nil _ _) ?_
  refine aw_p 7 (
    .a 4 1 <| .nil _ _) ?_
  refine aw_rt ?_
  exact en_ret [.bool false] (by kernel_rfl)
theorem au_segBegun_15  :
    AC Try.prog 79 0 ([.int .i64 2, .int .i64 0]) [] (.int .i64 1) [] := by
  refine ac_in Try.func79 (fun w0 W pin => ?_)
  refine aw_p 3 (
    .a 1 1 <| .nil _ _) ?_
  refine aw_p 7 (
    .a 1 1 <| .p (does_c (au_segBegun_13)) <| .a 1 1 <| .nil _ _) ?_
  refine aw_p 15 (
    .a 1 1 <| .p (does_c (au_segBegun_14)) <| .a 1 1 <| .nil _ _) ?_
  refine aw_sq 30 31 ?_
  refine aw_p 61 (
    .a 1 1 <| .nil _ _) ?_
  refine aw_fl 123 ?_
  refine aw_sk ?_
  refine then_normal ?_
  refine aw_sq 62 63 ?_
  refine aw_p 125 (
    .a 1 1 <| .nil _ _) ?_
  refine aw_fl 251 ?_
  refine aw_sk ?_
  refine then_normal ?_
  refine aw_sq 126 127 ?_
  refine aw_p 253 (
    .a 3 1 <| .nil _ _) ?_
  refine aw_fl 507 ?_
  refine aw_sk ?_
  refine then_normal ?_
  refine aw_sq 254 255 ?_
  refine aw_p 509 (
    .a 3 1 <| .nil _ _) ?_
  refine aw_tr 1018 ?_
  refine aw_p 2037 (
    .a 1 1 <| .nil _ _) ?_
  refine aw_rt ?_
  refine then_ret ?_
  exact en_ret [.int .i64 1] (by kernel_rfl)
theorem au_segBegun_16  :
    AC Try.prog 35 0 ([.agg #[.int .i64 0, .int .i64 0], .agg #[.int .i64 2, .int .i64 0], .agg #[.int .i64 1, .int .i64 1]]) [] (.int .i64 1) [] := by
  refine ac_in Try.func35 (fun w0 W pin => ?_)
  refine aw_p 3 (
    .a 4 1 <| .nil _ _) ?_
  refine aw_p 7 (
    .a 3 4 <| .p (does_c (au_segBegun_12)) <| .p (does_c (au_segBegun_15)) <| .a 1 4 <| .nil _ _) ?_
  refine aw_rt ?_
  exact en_ret [.int .i64 1] (by kernel_rfl)
theorem au_segBegun_17  :
    AC Try.prog 53 0 ([.int .i64 3, .int .i64 4]) [] (.agg #[.int .i64 3, .int .i64 4]) [] := by
  refine ac_in Try.func53 (fun w0 W pin => ?_)
  refine aw_p 3 (
    .a 1 1 <| .nil _ _) ?_
  refine aw_p 7 (
    .a 4 2 <| .nil _ _) ?_
  refine aw_rt ?_
  exact en_ret [.agg #[.int .i64 3, .int .i64 4]] (by kernel_rfl)
theorem au_segBegun_18  :
    AC Try.prog 101 0 ([.int .i64 3, .int .i64 1048576]) [] (.int .i64 3) [] := by
  refine ac_in Try.func101 (fun w0 W pin => ?_)
  refine aw_p 3 (
    .a 1 1 <| .nil _ _) ?_
  refine aw_p 7 (
    .a 7 1 <| .nil _ _) ?_
  refine aw_rt ?_
  exact en_ret [.int .i64 3] (by kernel_rfl)
theorem au_segBegun_19  :
    AC Try.prog 101 0 ([.int .i64 4, .int .i64 1048576]) [] (.int .i64 4) [] := by
  refine ac_in Try.func101 (fun w0 W pin => ?_)
  refine aw_p 3 (
    .a 1 1 <| .nil _ _) ?_
  refine aw_p 7 (
    .a 7 1 <| .nil _ _) ?_
  refine aw_rt ?_
  exact en_ret [.int .i64 4] (by kernel_rfl)
theorem au_segBegun_20  :
    AC Try.prog 56 0 ([.agg #[.int .i64 3, .int .i64 4]]) [] (.agg #[.int .i64 3, .int .i64 4]) [] := by
  refine ac_in Try.func56 (fun w0 W pin => ?_)
  refine aw_p 3 (
    .a 2 1 <| .nil _ _) ?_
  refine aw_d 7 (
    .a 2 3 <| .p (does_c (au_segBegun_18)) <| .a 2 3 <| .p (does_c (au_segBegun_19)) <| .a 2 3 <| .nil _ _) ?_
  refine aw_rt ?_
  exact en_ret [.agg #[.int .i64 3, .int .i64 4]] (by kernel_rfl)
theorem au_segBegun_21  :
    AC Try.prog 117 0 ([.agg #[.int .i64 0, .int .i64 0], .agg #[.int .i64 3, .int .i64 4]]) [] (.agg #[.int .i64 3, .int .i64 4]) [] := by
  refine ac_in Try.func117 (fun w0 W pin => ?_)
  refine aw_p 3 (
    .a 3 1 <| .nil _ _) ?_
  refine aw_d 7 (
    .a 1 4 <| .p (does_c (au_segBegun_5)) <| .a 1 4 <| .p (does_c (au_segBegun_20)) <| .a 2 4 <| .nil _ _) ?_
  refine aw_p 15 (
    .a 12 4 <| .nil _ _) ?_
  refine aw_rt ?_
  exact en_ret [.agg #[.int .i64 3, .int .i64 4]] (by kernel_rfl)
theorem au_segBegun_22  :
    AC Try.prog 115 0 ([.agg #[.int .i64 0, .int .i64 0], .agg #[.int .i64 3, .int .i64 4], .agg #[.int .i64 3, .int .i64 4]]) [] (.int .i64 25) [] := by
  refine ac_in Try.func115 (fun w0 W pin => ?_)
  refine aw_p 3 (
    .a 4 1 <| .nil _ _) ?_
  refine aw_d 7 (
    .a 2 4 <| .p (does_c (au_segBegun_21)) <| .a 2 4 <| .p (does_c (au_segBegun_21)) <| .a 4 4 <| .nil _ _) ?_
  refine aw_p 15 (
    .a 12 6 <| .nil _ _) ?_
  refine aw_w [(6, .int .i64 25)] [] ?_
  refine aw_rt ?_
  exact en_ret [.int .i64 25] (by kernel_rfl)
theorem au_segBegun_23  :
    AC Try.prog 77 0 ([.agg #[.int .i64 0, .int .i64 0], .agg #[.int .i64 3, .int .i64 4]]) [] (.int .i64 25) [] := by
  refine ac_in Try.func77 (fun w0 W pin => ?_)
  refine aw_p 3 (
    .a 3 1 <| .nil _ _) ?_
  refine aw_p 7 (
    .a 3 3 <| .p (does_c (au_segBegun_22)) <| .a 1 3 <| .nil _ _) ?_
  refine aw_rt ?_
  exact en_ret [.int .i64 25] (by kernel_rfl)
theorem au_segBegun_24  :
    AC Try.prog 52 0 ([]) [] (.bool true) [] := by
  refine ac_in Try.func52 (fun w0 W pin => ?_)
  refine aw_p 3 (
    .a 1 1 <| .nil _ _) ?_
  refine aw_p 7 (
    .p (does_c (au_segBegun_1)) <| .p (does_c (au_segBegun_2)) <| .p (does_c (au_segBegun_3)) <| .p (does_c (au_segBegun_16)) <| .a 2 1 <| .p (does_c (au_segBegun_1)) <| .p (does_c (au_segBegun_17)) <| .p (does_c (au_segBegun_23)) <| .a 3 1 <| .nil _ _) ?_
  refine aw_rt ?_
  exact en_ret [.bool true] (by kernel_rfl)
theorem au_segBegun_25  :
    AC Try.prog 53 0 ([.int .i64 5, .int .i64 1]) [] (.agg #[.int .i64 5, .int .i64 1]) [] := by
  refine ac_in Try.func53 (fun w0 W pin => ?_)
  refine aw_p 3 (
    .a 1 1 <| .nil _ _) ?_
  refine aw_p 7 (
    .a 4 2 <| .nil _ _) ?_
  refine aw_rt ?_
  exact en_ret [.agg #[.int .i64 5, .int .i64 1]] (by kernel_rfl)
theorem au_segBegun_26  :
    AC Try.prog 53 0 ([.int .i64 10, .int .i64 0]) [] (.agg #[.int .i64 10, .int .i64 0]) [] := by
  refine ac_in Try.func53 (fun w0 W pin => ?_)
  refine aw_p 3 (
    .a 1 1 <| .nil _ _) ?_
  refine aw_p 7 (
    .a 4 2 <| .nil _ _) ?_
  refine aw_rt ?_
  exact en_ret [.agg #[.int .i64 10, .int .i64 0]] (by kernel_rfl)
theorem au_segBegun_27  :
    AC Try.prog 101 0 ([.int .i64 5, .int .i64 1048576]) [] (.int .i64 5) [] := by
  refine ac_in Try.func101 (fun w0 W pin => ?_)
  refine aw_p 3 (
    .a 1 1 <| .nil _ _) ?_
  refine aw_p 7 (
    .a 7 1 <| .nil _ _) ?_
  refine aw_rt ?_
  exact en_ret [.int .i64 5] (by kernel_rfl)
theorem au_segBegun_28  :
    AC Try.prog 56 0 ([.agg #[.int .i64 5, .int .i64 1]]) [] (.agg #[.int .i64 5, .int .i64 1]) [] := by
  refine ac_in Try.func56 (fun w0 W pin => ?_)
  refine aw_p 3 (
    .a 2 1 <| .nil _ _) ?_
  refine aw_d 7 (
    .a 2 3 <| .p (does_c (au_segBegun_27)) <| .a 2 3 <| .p (does_c (au_segBegun_9)) <| .a 2 3 <| .nil _ _) ?_
  refine aw_rt ?_
  exact en_ret [.agg #[.int .i64 5, .int .i64 1]] (by kernel_rfl)
theorem au_segBegun_29  :
    AC Try.prog 101 0 ([.int .i64 10, .int .i64 1048576]) [] (.int .i64 10) [] := by
  refine ac_in Try.func101 (fun w0 W pin => ?_)
  refine aw_p 3 (
    .a 1 1 <| .nil _ _) ?_
  refine aw_p 7 (
    .a 7 1 <| .nil _ _) ?_
  refine aw_rt ?_
  exact en_ret [.int .i64 10] (by kernel_rfl)
theorem au_segBegun_30  :
    AC Try.prog 56 0 ([.agg #[.int .i64 10, .int .i64 0]]) [] (.agg #[.int .i64 10, .int .i64 0]) [] := by
  refine ac_in Try.func56 (fun w0 W pin => ?_)
  refine aw_p 3 (
    .a 2 1 <| .nil _ _) ?_
  refine aw_d 7 (
    .a 2 3 <| .p (does_c (au_segBegun_29)) <| .a 2 3 <| .p (does_c (au_segBegun_4)) <| .a 2 3 <| .nil _ _) ?_
  refine aw_rt ?_
  exact en_ret [.agg #[.int .i64 10, .int .i64 0]] (by kernel_rfl)
theorem au_segBegun_31  :
    AC Try.prog 117 0 ([.agg #[.int .i64 0, .int .i64 0], .agg #[.int .i64 10, .int .i64 0]]) [] (.agg #[.int .i64 10, .int .i64 0]) [] := by
  refine ac_in Try.func117 (fun w0 W pin => ?_)
  refine aw_p 3 (
    .a 3 1 <| .nil _ _) ?_
  refine aw_d 7 (
    .a 1 4 <| .p (does_c (au_segBegun_5)) <| .a 1 4 <| .p (does_c (au_segBegun_30)) <| .a 2 4 <| .nil _ _) ?_
  refine aw_p 15 (
    .a 12 4 <| .nil _ _) ?_
  refine aw_rt ?_
  exact en_ret [.agg #[.int .i64 10, .int .i64 0]] (by kernel_rfl)
theorem au_segBegun_32  :
    AC Try.prog 115 0 ([.agg #[.int .i64 0, .int .i64 0], .agg #[.int .i64 10, .int .i64 0], .agg #[.int .i64 10, .int .i64 0]]) [] (.int .i64 100) [] := by
  refine ac_in Try.func115 (fun w0 W pin => ?_)
  refine aw_p 3 (
    .a 4 1 <| .nil _ _) ?_
  refine aw_d 7 (
    .a 2 4 <| .p (does_c (au_segBegun_31)) <| .a 2 4 <| .p (does_c (au_segBegun_31)) <| .a 4 4 <| .nil _ _) ?_
  refine aw_p 15 (
    .a 12 6 <| .nil _ _) ?_
  refine aw_w [(6, .int .i64 100)] [] ?_
  refine aw_rt ?_
  exact en_ret [.int .i64 100] (by kernel_rfl)
theorem au_segBegun_33  :
    AC Try.prog 77 0 ([.agg #[.int .i64 0, .int .i64 0], .agg #[.int .i64 10, .int .i64 0]]) [] (.int .i64 100) [] := by
  refine ac_in Try.func77 (fun w0 W pin => ?_)
  refine aw_p 3 (
    .a 3 1 <| .nil _ _) ?_
  refine aw_p 7 (
    .a 3 3 <| .p (does_c (au_segBegun_32)) <| .a 1 3 <| .nil _ _) ?_
  refine aw_rt ?_
  exact en_ret [.int .i64 100] (by kernel_rfl)
theorem au_segBegun_34  :
    AC Try.prog 117 0 ([.agg #[.int .i64 0, .int .i64 0], .agg #[.int .i64 5, .int .i64 1]]) [] (.agg #[.int .i64 5, .int .i64 1]) [] := by
  refine ac_in Try.func117 (fun w0 W pin => ?_)
  refine aw_p 3 (
    .a 3 1 <| .nil _ _) ?_
  refine aw_d 7 (
    .a 1 4 <| .p (does_c (au_segBegun_5)) <| .a 1 4 <| .p (does_c (au_segBegun_28)) <| .a 2 4 <| .nil _ _) ?_
  refine aw_p 15 (
    .a 12 4 <| .nil _ _) ?_
  refine aw_rt ?_
  exact en_ret [.agg #[.int .i64 5, .int .i64 1]] (by kernel_rfl)
theorem au_segBegun_35  :
    AC Try.prog 115 0 ([.agg #[.int .i64 0, .int .i64 0], .agg #[.int .i64 10, .int .i64 0], .agg #[.int .i64 5, .int .i64 1]]) [] (.int .i64 50) [] := by
  refine ac_in Try.func115 (fun w0 W pin => ?_)
  refine aw_p 3 (
    .a 4 1 <| .nil _ _) ?_
  refine aw_d 7 (
    .a 2 4 <| .p (does_c (au_segBegun_31)) <| .a 2 4 <| .p (does_c (au_segBegun_34)) <| .a 4 4 <| .nil _ _) ?_
  refine aw_p 15 (
    .a 12 6 <| .nil _ _) ?_
  refine aw_w [(6, .int .i64 50)] [] ?_
  refine aw_rt ?_
  exact en_ret [.int .i64 50] (by kernel_rfl)
theorem au_segBegun_36  :
    AC Try.prog 80 0 ([.agg #[.int .i64 0, .int .i64 0], .agg #[.int .i64 10, .int .i64 0], .agg #[.int .i64 5, .int .i64 1]]) [] (.int .i64 10) [] := by
  refine ac_in Try.func80 (fun w0 W pin => ?_)
  refine aw_p 3 (
    .a 4 1 <| .nil _ _) ?_
  refine aw_d 7 (
    .a 2 4 <| .p (does_c (au_segBegun_31)) <| .a 2 4 <| .p (does_c (au_segBegun_34)) <| .a 4 4 <| .nil _ _) ?_
  refine aw_p 15 (
    .a 12 6 <| .nil _ _) ?_
  refine aw_w [(6, .int .i64 10)] [] ?_
  refine aw_rt ?_
  exact en_ret [.int .i64 10] (by kernel_rfl)
theorem au_segBegun_37  :
    AC Try.prog 120 0 ([.int .u64 10, .int .u64 10]) [] (.tuple #[.int .u64 0, .int .u64 100]) [] := by
  refine ac_in Try.func120 (fun w0 W pin => ?_)
  refine aw_p 3 (
    .a 2 1 <| .nil _ _) ?_
  refine aw_p 7 (
    .a 3 1 <| .nil _ _) ?_
  refine aw_p 15 (
    .a 3 1 <| .nil _ _) ?_
  refine aw_p 31 (
    .a 3 1 <| .nil _ _) ?_
  refine aw_p 63 (
    .a 3 1 <| .nil _ _) ?_
  refine aw_p 127 (
    .a 4 1 <| .nil _ _) ?_
  refine aw_p 255 (
    .a 7 1 <| .nil _ _) ?_
  refine aw_w [(0, .int .u64 10), (1, .int .u64 10), (4, .int .u64 0), (5, .int .u64 0), (6, .int .u64 10), (7, .int .u64 0), (9, .int .u64 0), (11, .int .u64 0)] [] ?_
  refine aw_p 511 (
    .a 3 1 <| .nil _ _) ?_
  refine aw_p 1023 (
    .a 3 1 <| .nil _ _) ?_
  refine aw_p 2047 (
    .a 6 1 <| .nil _ _) ?_
  refine aw_p 4095 (
    .a 9 1 <| .nil _ _) ?_
  refine aw_p 8191 (
    .a 4 1 <| .nil _ _) ?_
  refine aw_w [(4, .int .u64 0), (5, .int .u64 100)] [] ?_
  refine aw_rt ?_
  exact en_ret [.int .u64 0, .int .u64 100] (by kernel_rfl)
theorem au_segBegun_38  :
    AC Try.prog 92 0 ([.int .i64 10, .int .i64 10]) [] (.agg #[.int .i64 0, .int .u64 100]) [] := by
  refine ac_in Try.func92 (fun w0 W pin => ?_)
  refine aw_p 3 (
    .a 1 1 <| .nil _ _) ?_
  refine aw_p 7 (
    .a 4 2 <| .p (does_c (au_segBegun_37)) <| .a 5 2 <| .nil _ _) ?_
  refine aw_sq 14 15 ?_
  refine aw_p 29 (
    .a 2 2 <| .nil _ _) ?_
  refine aw_fl 59 ?_
  refine aw_sk ?_
  refine then_normal ?_
  refine aw_sq 30 31 ?_
  refine aw_p 61 (
    .a 2 2 <| .nil _ _) ?_
  refine aw_fl 123 ?_
  refine aw_sk ?_
  refine then_normal ?_
  refine aw_p 63 (
    .a 5 2 <| .nil _ _) ?_
  refine aw_rt ?_
  exact en_ret [.agg #[.int .i64 0, .int .u64 100]] (by kernel_rfl)
theorem au_segBegun_39  :
    AC Try.prog 94 0 ([.agg #[.int .i64 5, .int .i64 1], .agg #[.int .i64 0, .int .i64 0], .agg #[.int .i64 10, .int .i64 0]]) [] (.tuple #[.agg #[.int .i64 0, .int .u64 100], .int .i64 100]) [] := by
  refine ac_in Try.func94 (fun w0 W pin => ?_)
  refine aw_p 3 (
    .a 5 1 <| .nil _ _) ?_
  refine aw_d 7 (
    .a 2 5 <| .p (does_c (au_segBegun_33)) <| .a 3 5 <| .p (does_c (au_segBegun_35)) <| .a 2 5 <| .nil _ _) ?_
  refine aw_sq 14 15 ?_
  refine aw_bl 0 29 ?_
  refine aw_p 59 (
    .a 3 5 <| .nil _ _) ?_
  refine aw_fl 119 ?_
  refine aw_p 239 (
    .a 4 5 <| .nil _ _) ?_
  refine aw_fl 479 ?_
  refine aw_sk ?_
  refine block_normal ?_
  refine then_normal ?_
  refine aw_p 31 (
    .a 3 5 <| .p (does_c (au_segBegun_36)) <| .a 1 5 <| .nil _ _) ?_
  refine aw_w [(6, .pointer (some ⟨4, 0, none⟩)), (7, .int .i64 0), (8, .int .i64 100), (10, .int .i64 10)] [(4, ⟨[.int .i64 0, .int .u64 0], 90, true, 2⟩)] ?_
  refine aw_p 63 (
    .a 2 5 <| .p (does_c (au_segBegun_38)) <| .a 3 5 <| .nil _ _) ?_
  refine aw_rt ?_
  exact en_ret [.agg #[.int .i64 0, .int .u64 100], .int .i64 100] (by kernel_rfl)
theorem au_segBegun_40  :
    AC Try.prog 120 0 ([.int .u64 1, .int .u64 100]) [] (.tuple #[.int .u64 0, .int .u64 100]) [] := by
  refine ac_in Try.func120 (fun w0 W pin => ?_)
  refine aw_p 3 (
    .a 2 1 <| .nil _ _) ?_
  refine aw_p 7 (
    .a 3 1 <| .nil _ _) ?_
  refine aw_p 15 (
    .a 3 1 <| .nil _ _) ?_
  refine aw_p 31 (
    .a 3 1 <| .nil _ _) ?_
  refine aw_p 63 (
    .a 3 1 <| .nil _ _) ?_
  refine aw_p 127 (
    .a 4 1 <| .nil _ _) ?_
  refine aw_p 255 (
    .a 7 1 <| .nil _ _) ?_
  refine aw_w [(0, .int .u64 1), (1, .int .u64 100), (4, .int .u64 0), (5, .int .u64 0), (6, .int .u64 1), (7, .int .u64 0), (9, .int .u64 0), (11, .int .u64 0)] [] ?_
  refine aw_p 511 (
    .a 3 1 <| .nil _ _) ?_
  refine aw_p 1023 (
    .a 3 1 <| .nil _ _) ?_
  refine aw_p 2047 (
    .a 6 1 <| .nil _ _) ?_
  refine aw_p 4095 (
    .a 9 1 <| .nil _ _) ?_
  refine aw_p 8191 (
    .a 4 1 <| .nil _ _) ?_
  refine aw_w [(4, .int .u64 0), (5, .int .u64 100)] [] ?_
  refine aw_rt ?_
  exact en_ret [.int .u64 0, .int .u64 100] (by kernel_rfl)
theorem au_segBegun_41  :
    AC Try.prog 92 0 ([.int .i64 1, .int .i64 100]) [] (.agg #[.int .i64 0, .int .u64 100]) [] := by
  refine ac_in Try.func92 (fun w0 W pin => ?_)
  refine aw_p 3 (
    .a 1 1 <| .nil _ _) ?_
  refine aw_p 7 (
    .a 4 2 <| .p (does_c (au_segBegun_40)) <| .a 5 2 <| .nil _ _) ?_
  refine aw_sq 14 15 ?_
  refine aw_p 29 (
    .a 2 2 <| .nil _ _) ?_
  refine aw_fl 59 ?_
  refine aw_sk ?_
  refine then_normal ?_
  refine aw_sq 30 31 ?_
  refine aw_p 61 (
    .a 2 2 <| .nil _ _) ?_
  refine aw_fl 123 ?_
  refine aw_sk ?_
  refine then_normal ?_
  refine aw_p 63 (
    .a 5 2 <| .nil _ _) ?_
  refine aw_rt ?_
  exact en_ret [.agg #[.int .i64 0, .int .u64 100]] (by kernel_rfl)
theorem au_segBegun_42  :
    AC Try.prog 95 0 ([.agg #[.int .i64 0, .int .u64 100], .agg #[.int .i64 0, .int .u64 100]]) [] (.int .i64 0) [] := by
  refine ac_in Try.func95 (fun w0 W pin => ?_)
  refine aw_p 3 (
    .a 3 1 <| .nil _ _) ?_
  refine aw_sq 6 7 ?_
  refine aw_bl 0 13 ?_
  refine aw_p 27 (
    .a 2 3 <| .p (does_e true ((show ((0 == 0) && ((100 == 100) && true)) = true from by decide))) <| .a 1 3 <| .nil _ _) ?_
  refine aw_tr 54 ?_
  refine aw_p 109 (
    .a 1 3 <| .nil _ _) ?_
  refine aw_rt ?_
  refine block_ret ?_
  refine then_ret ?_
  exact en_ret [.int .i64 0] (by kernel_rfl)
theorem au_segBegun_43  :
    AC Try.prog 51 0 ([.agg #[.int .i64 5, .int .i64 1], .agg #[.int .i64 0, .int .i64 0], .agg #[.int .i64 10, .int .i64 0], .int .i64 1]) [] (.bool true) [] := by
  refine ac_in Try.func51 (fun w0 W pin => ?_)
  refine aw_p 3 (
    .a 4 1 <| .nil _ _) ?_
  refine aw_p 7 (
    .a 3 4 <| .nil _ _) ?_
  refine aw_sq 14 15 ?_
  refine aw_p 29 (
    .a 2 4 <| .nil _ _) ?_
  refine aw_fl 59 ?_
  refine aw_sk ?_
  refine then_normal ?_
  refine aw_p 31 (
    .a 3 4 <| .p (does_c (au_segBegun_39)) <| .a 6 4 <| .nil _ _) ?_
  refine aw_d 63 (
    .a 5 5 <| .p (does_c (au_segBegun_41)) <| .p (does_c (au_segBegun_42)) <| .a 2 5 <| .nil _ _) ?_
  refine aw_w [(8, .bool true)] [] ?_
  refine aw_rt ?_
  exact en_ret [.bool true] (by kernel_rfl)
theorem au_segBegun_44  :
    AC Try.prog 57 2 ([.slice (some ⟨0, 0, none⟩) 3 0, .slice (some ⟨1, 0, none⟩) 3 0, .int .i64 0, .int .i64 2, .int .i64 1]) [(0, ⟨[.int .i64 0, .int .i64 0, .int .i64 5, .int .i64 1, .int .i64 10, .int .i64 0], 29, true, 2⟩), (1, ⟨[.bool true, .bool false, .bool true], 4, true, 1⟩)] (.tuple #[]) [(0, ⟨[.int .i64 0, .int .i64 0, .int .i64 5, .int .i64 1, .int .i64 10, .int .i64 0], 29, true, 2⟩), (1, ⟨[.bool true, .bool false, .bool true], 4, true, 1⟩)] := by
  refine ac_in Try.func57 (fun w0 W pin => ?_)
  refine aw_p 3 (
    .a 1 2 <| .nil _ _) ?_
  refine aw_sq 6 7 ?_
  refine aw_p 13 (
    .a 3 2 <| .nil _ _) ?_
  refine aw_bl 0 27 ?_
  refine aw_lp 55 ?_
  refine al_round ?_
  refine aw_sq 110 111 ?_
  refine aw_p 221 (
    .a 3 2 <| .nil _ _) ?_
  refine aw_tr 442 ?_
  refine aw_sk ?_
  refine then_normal ?_
  refine aw_sq 222 223 ?_
  refine aw_bl 1 445 ?_
  refine aw_d 891 (
    .a 14 2 <| .p (does_c (au_segBegun_43)) <| .a 24 2 <| .nil _ _) ?_
  refine aw_w [(0, .slice (some ⟨0, 0, none⟩) 3 0), (1, .slice (some ⟨1, 0, none⟩) 3 0), (2, .int .i64 0), (3, .int .i64 2), (4, .int .i64 1), (10, .int .i64 (-1)), (11, .int .i64 1), (16, .bool true), (57, .bool false)] [(0, ⟨[.int .i64 0, .int .i64 0, .int .i64 5, .int .i64 1, .int .i64 10, .int .i64 0], 29, true, 2⟩), (1, ⟨[.bool true, .bool false, .bool true], 4, true, 1⟩)] ?_
  refine aw_fl 1783 ?_
  refine aw_sk ?_
  refine block_normal ?_
  refine then_normal ?_
  refine aw_p1 (
    .a 3 2 <| .nil _ _) ?_
  refine then_normal ?_
  refine al_round ?_
  refine aw_sq 110 111 ?_
  refine aw_p 221 (
    .a 3 2 <| .nil _ _) ?_
  refine aw_fl 443 ?_
  refine aw_ex 0 ?_
  refine then_exit ?_
  refine then_exit ?_
  refine block_exit ?_
  refine then_normal ?_
  refine aw_sq 14 15 ?_
  refine aw_p 29 (
    .a 2 2 <| .nil _ _) ?_
  refine aw_tr 58 ?_
  refine aw_rt ?_
  refine then_ret ?_
  exact en_ret [] (by kernel_rfl)
theorem au_segBegun_45  :
    AC Try.prog 16 1 ([.slice (some ⟨0, 0, none⟩) 3 0, .int .i64 1]) [(0, ⟨[.int .i64 0, .int .i64 0, .int .i64 5, .int .i64 1, .int .i64 10, .int .i64 0], 29, true, 2⟩)] (.slice (some ⟨1, 0, none⟩) 2 0) [(0, ⟨[.int .i64 0, .int .i64 0, .int .i64 5, .int .i64 1, .int .i64 10, .int .i64 0], 29, true, 2⟩), (1, ⟨[.int .i64 0, .int .i64 0, .int .i64 10, .int .i64 0], 29, true, 2⟩)] := by
  refine ac_in Try.func16 (fun w0 W pin => ?_)
  refine aw_p 3 (
    .a 1 1 <| .nil _ _) ?_
  refine aw_p 7 (
    .a 2 1 <| .p (does_mk (kl := .i64) (kc := .i64) (n' := 0) (c' := 3) 1 29 2 16 0 3 (.agg #[.int .i64 0, .int .i64 0]) [] (by kernel_rfl) (by kernel_rfl) (by kernel_rfl) (by kernel_rfl) (by decide) (by decide) (by decide) (by decide) (by decide)) <| .a 1 2 <| .nil _ _) ?_
  refine aw_sq 14 15 ?_
  refine aw_p 29 (
    .a 3 2 <| .nil _ _) ?_
  refine aw_bl 0 59 ?_
  refine aw_lp 119 ?_
  refine al_round ?_
  refine aw_p 239 (
    .a 1 2 <| .nil _ _) ?_
  refine aw_sq 478 479 ?_
  refine aw_tr 956 ?_
  refine aw_sk ?_
  refine then_normal ?_
  refine aw_sq 958 959 ?_
  refine aw_bl 1 1917 ?_
  refine aw_p 3835 (
    .a 4 2 <| .nil _ _) ?_
  refine aw_p1 (
    .a 2 3 <| .p (does_c (au_segBegun_5)) <| .a 1 3 <| .p (does_ap 4) <| .a 1 5 <| .nil _ _) ?_
  refine block_normal ?_
  refine then_normal ?_
  refine aw_p1 (
    .a 2 5 <| .nil _ _) ?_
  refine then_normal ?_
  refine al_round ?_
  refine aw_p 239 (
    .a 1 5 <| .nil _ _) ?_
  refine aw_sq 478 479 ?_
  refine aw_tr 956 ?_
  refine aw_sk ?_
  refine then_normal ?_
  refine aw_sq 958 959 ?_
  refine aw_bl 1 1917 ?_
  refine aw_p 3835 (
    .a 4 5 <| .nil _ _) ?_
  refine aw_w [(1, .int .i64 1), (4, .slice none 0 0), (5, .slice (some ⟨4, 0, none⟩) 1 0), (7, .pointer (some ⟨5, 0, none⟩)), (15, .slice (some ⟨0, 0, none⟩) 3 0), (16, .int .i64 3), (17, .int .i64 1), (18, .bool true)] [(0, ⟨[.int .i64 0, .int .i64 0, .int .i64 5, .int .i64 1, .int .i64 10, .int .i64 0], 29, true, 2⟩), (4, ⟨[.int .i64 0, .int .i64 0], 29, true, 2⟩), (5, ⟨[.int .i64 5, .int .i64 1], 29, true, 2⟩)] ?_
  refine aw_p1 (
    .a 2 6 <| .p (does_c (au_segBegun_28)) <| .a 1 6 <| .p (does_ap 7) <| .a 1 8 <| .nil _ _) ?_
  refine block_normal ?_
  refine then_normal ?_
  refine aw_p1 (
    .a 2 8 <| .nil _ _) ?_
  refine then_normal ?_
  refine al_round ?_
  refine aw_p 239 (
    .a 1 8 <| .nil _ _) ?_
  refine aw_sq 478 479 ?_
  refine aw_tr 956 ?_
  refine aw_sk ?_
  refine then_normal ?_
  refine aw_sq 958 959 ?_
  refine aw_bl 1 1917 ?_
  refine aw_p 3835 (
    .a 4 8 <| .nil _ _) ?_
  refine aw_p1 (
    .a 2 9 <| .p (does_c (au_segBegun_30)) <| .a 1 9 <| .p (does_ap 10) <| .a 1 11 <| .nil _ _) ?_
  refine block_normal ?_
  refine then_normal ?_
  refine aw_p1 (
    .a 2 11 <| .nil _ _) ?_
  refine then_normal ?_
  refine al_round ?_
  refine aw_p 239 (
    .a 1 11 <| .nil _ _) ?_
  refine aw_sq 478 479 ?_
  refine aw_fl 957 ?_
  refine aw_ex 0 ?_
  refine then_exit ?_
  refine then_exit ?_
  refine block_exit ?_
  refine then_normal ?_
  refine aw_sq 30 31 ?_
  refine aw_p 61 (
    .a 3 11 <| .nil _ _) ?_
  refine aw_w [(1, .int .i64 1), (4, .slice none 0 0), (5, .slice (some ⟨10, 0, none⟩) 3 0), (29, .bool false)] [(0, ⟨[.int .i64 0, .int .i64 0, .int .i64 5, .int .i64 1, .int .i64 10, .int .i64 0], 29, true, 2⟩), (10, ⟨[.int .i64 0, .int .i64 0, .int .i64 5, .int .i64 1, .int .i64 10, .int .i64 0], 29, true, 2⟩)] ?_
  refine aw_fl 123 ?_
  refine aw_sk ?_
  refine then_normal ?_
  refine aw_p 63 (
    .a 2 11 <| .p (does_mk (kl := .i64) (kc := .i64) (n' := 3) (c' := 3) 11 4 1 1 3 3 (.bool false) [.bool false, .bool false, .bool false] (by kernel_rfl) (by kernel_rfl) (by kernel_rfl) (by kernel_rfl) (by decide) (by decide) (by decide) (by decide) (by decide)) <| .a 1 12 <| .nil _ _) ?_
  refine aw_p 127 (
    .a 9 12 <| .nil _ _) ?_
  refine aw_p 255 (
    .a 6 12 <| .p (does_k [10, 11] (au_segBegun_44)) <| .nil _ _) ?_
  refine aw_p 511 (
    .a 2 12 <| .p (does_mk (kl := .i64) (kc := .i64) (n' := 0) (c' := 3) 12 29 2 16 0 3 (.agg #[.int .i64 0, .int .i64 0]) [] (by kernel_rfl) (by kernel_rfl) (by kernel_rfl) (by kernel_rfl) (by decide) (by decide) (by decide) (by decide) (by decide)) <| .a 1 13 <| .nil _ _) ?_
  refine aw_sq 1022 1023 ?_
  refine aw_p 2045 (
    .a 3 13 <| .nil _ _) ?_
  refine aw_w [(4, .slice none 0 0), (8, .slice (some ⟨11, 0, none⟩) 3 0), (9, .slice (some ⟨12, 0, none⟩) 0 0), (51, .slice (some ⟨10, 0, none⟩) 3 0), (52, .int .i64 3), (53, .int .i64 0)] [(0, ⟨[.int .i64 0, .int .i64 0, .int .i64 5, .int .i64 1, .int .i64 10, .int .i64 0], 29, true, 2⟩), (10, ⟨[.int .i64 0, .int .i64 0, .int .i64 5, .int .i64 1, .int .i64 10, .int .i64 0], 29, true, 2⟩), (11, ⟨[.bool true, .bool false, .bool true], 4, true, 1⟩), (12, ⟨[], 29, true, 2⟩)] ?_
  refine aw_bl 2 4091 ?_
  refine aw_lp 8183 ?_
  refine al_round ?_
  refine aw_p 16367 (
    .a 1 13 <| .nil _ _) ?_
  refine aw_sq 32734 32735 ?_
  refine aw_tr 65468 ?_
  refine aw_sk ?_
  refine then_normal ?_
  refine aw_sq 65470 65471 ?_
  refine aw_bl 3 130941 ?_
  refine aw_p 261883 (
    .a 6 13 <| .nil _ _) ?_
  refine aw_p 523767 (
    .a 4 14 <| .nil _ _) ?_
  refine aw_tr 1047534 ?_
  refine aw_p1 (
    .a 3 14 <| .p (does_ap 15) <| .a 1 16 <| .nil _ _) ?_
  refine block_normal ?_
  refine then_normal ?_
  refine aw_p1 (
    .a 2 16 <| .nil _ _) ?_
  refine then_normal ?_
  refine al_round ?_
  refine aw_p 16367 (
    .a 1 16 <| .nil _ _) ?_
  refine aw_sq 32734 32735 ?_
  refine aw_tr 65468 ?_
  refine aw_sk ?_
  refine then_normal ?_
  refine aw_sq 65470 65471 ?_
  refine aw_bl 3 130941 ?_
  refine aw_p 261883 (
    .a 6 16 <| .nil _ _) ?_
  refine aw_w [(4, .slice none 0 0), (8, .slice (some ⟨11, 0, none⟩) 3 0), (9, .slice (some ⟨15, 0, none⟩) 1 0), (10, .int .i64 1), (11, .pointer (some ⟨16, 0, none⟩)), (51, .slice (some ⟨10, 0, none⟩) 3 0), (52, .int .i64 3), (53, .int .i64 1), (54, .bool true), (61, .bool true)] [(0, ⟨[.int .i64 0, .int .i64 0, .int .i64 5, .int .i64 1, .int .i64 10, .int .i64 0], 29, true, 2⟩), (10, ⟨[.int .i64 0, .int .i64 0, .int .i64 5, .int .i64 1, .int .i64 10, .int .i64 0], 29, true, 2⟩), (11, ⟨[.bool true, .bool false, .bool true], 4, true, 1⟩), (15, ⟨[.int .i64 0, .int .i64 0], 29, true, 2⟩), (16, ⟨[.int .i64 5, .int .i64 1], 29, true, 2⟩)] ?_
  refine aw_p 523767 (
    .a 4 17 <| .nil _ _) ?_
  refine aw_fl 1047535 ?_
  refine aw_sk ?_
  refine block_normal ?_
  refine then_normal ?_
  refine aw_p1 (
    .a 2 17 <| .nil _ _) ?_
  refine then_normal ?_
  refine al_round ?_
  refine aw_p 16367 (
    .a 1 17 <| .nil _ _) ?_
  refine aw_sq 32734 32735 ?_
  refine aw_tr 65468 ?_
  refine aw_sk ?_
  refine then_normal ?_
  refine aw_sq 65470 65471 ?_
  refine aw_bl 3 130941 ?_
  refine aw_p 261883 (
    .a 6 17 <| .nil _ _) ?_
  refine aw_p 523767 (
    .a 4 18 <| .nil _ _) ?_
  refine aw_tr 1047534 ?_
  refine aw_p1 (
    .a 3 18 <| .p (does_ap 19) <| .a 1 20 <| .nil _ _) ?_
  refine block_normal ?_
  refine then_normal ?_
  refine aw_p1 (
    .a 2 20 <| .nil _ _) ?_
  refine then_normal ?_
  refine al_round ?_
  refine aw_p 16367 (
    .a 1 20 <| .nil _ _) ?_
  refine aw_w [(4, .slice none 0 0), (8, .slice (some ⟨11, 0, none⟩) 3 0), (9, .slice (some ⟨19, 0, none⟩) 2 0), (10, .int .i64 2), (11, .pointer (some ⟨17, 0, none⟩)), (51, .slice (some ⟨10, 0, none⟩) 3 0), (52, .int .i64 3), (53, .int .i64 3), (54, .bool false), (61, .bool true)] [(0, ⟨[.int .i64 0, .int .i64 0, .int .i64 5, .int .i64 1, .int .i64 10, .int .i64 0], 29, true, 2⟩), (10, ⟨[.int .i64 0, .int .i64 0, .int .i64 5, .int .i64 1, .int .i64 10, .int .i64 0], 29, true, 2⟩), (11, ⟨[.bool true, .bool false, .bool true], 4, true, 1⟩), (17, ⟨[.int .i64 10, .int .i64 0], 29, true, 2⟩), (19, ⟨[.int .i64 0, .int .i64 0, .int .i64 10, .int .i64 0], 29, true, 2⟩)] ?_
  refine aw_sq 32734 32735 ?_
  refine aw_fl 65469 ?_
  refine aw_ex 2 ?_
  refine then_exit ?_
  refine then_exit ?_
  refine block_exit ?_
  refine then_normal ?_
  refine aw_p 2047 (
    .a 2 20 <| .nil _ _) ?_
  refine aw_r [(1, 19)] [(4, .slice (some ⟨19, 0, none⟩) 2 0)] [(0, ⟨[.int .i64 0, .int .i64 0, .int .i64 5, .int .i64 1, .int .i64 10, .int .i64 0], 29, true, 2⟩), (19, ⟨[.int .i64 0, .int .i64 0, .int .i64 10, .int .i64 0], 29, true, 2⟩)] [(4, .slice (some ⟨1, 0, none⟩) 2 0)] [(0, ⟨[.int .i64 0, .int .i64 0, .int .i64 5, .int .i64 1, .int .i64 10, .int .i64 0], 29, true, 2⟩), (1, ⟨[.int .i64 0, .int .i64 0, .int .i64 10, .int .i64 0], 29, true, 2⟩)] ?_ ⟨rfl, (.slice _ _ _ _ _ rfl), trivial⟩ ⟨rfl, ⟨rfl, rfl, rfl, (.flats (by kernel_rfl))⟩, rfl, ⟨rfl, rfl, rfl, (.flats (by kernel_rfl))⟩, trivial⟩
  refine aw_rt ?_
  exact en_ret [.slice (some ⟨1, 0, none⟩) 2 0] (by kernel_rfl)
theorem au_segBegun_46  :
    AC Try.prog 17 2 ([.slice (some ⟨0, 0, none⟩) 2 0, .slice (some ⟨1, 0, none⟩) 2 0]) [(0, ⟨[.int .i64 0, .int .i64 0, .int .i64 10, .int .i64 0], 29, true, 2⟩), (1, ⟨[.int .i64 0, .int .i64 0, .int .i64 10, .int .i64 0], 29, true, 2⟩)] (.bool true) [(0, ⟨[.int .i64 0, .int .i64 0, .int .i64 10, .int .i64 0], 29, true, 2⟩), (1, ⟨[.int .i64 0, .int .i64 0, .int .i64 10, .int .i64 0], 29, true, 2⟩)] := by
  refine ac_in Try.func17 (fun w0 W pin => ?_)
  refine aw_p 3 (
    .a 1 2 <| .nil _ _) ?_
  refine aw_sq 6 7 ?_
  refine aw_p 13 (
    .a 5 2 <| .nil _ _) ?_
  refine aw_fl 27 ?_
  refine aw_sk ?_
  refine then_normal ?_
  refine aw_sq 14 15 ?_
  refine aw_p 29 (
    .a 3 2 <| .nil _ _) ?_
  refine aw_bl 0 59 ?_
  refine aw_lp 119 ?_
  refine al_round ?_
  refine aw_p 239 (
    .a 1 2 <| .nil _ _) ?_
  refine aw_sq 478 479 ?_
  refine aw_tr 956 ?_
  refine aw_sk ?_
  refine then_normal ?_
  refine aw_sq 958 959 ?_
  refine aw_bl 1 1917 ?_
  refine aw_p 3835 (
    .a 2 2 <| .nil _ _) ?_
  refine aw_d 7671 (
    .a 8 2 <| .p (does_e false ((show (!((0 == 0) && ((0 == 0) && true))) = false from by decide))) <| .nil _ _) ?_
  refine aw_fl 15343 ?_
  refine aw_sk ?_
  refine block_normal ?_
  refine then_normal ?_
  refine aw_p1 (
    .a 2 2 <| .nil _ _) ?_
  refine then_normal ?_
  refine al_round ?_
  refine aw_p 239 (
    .a 1 2 <| .nil _ _) ?_
  refine aw_sq 478 479 ?_
  refine aw_tr 956 ?_
  refine aw_sk ?_
  refine then_normal ?_
  refine aw_sq 958 959 ?_
  refine aw_bl 1 1917 ?_
  refine aw_p 3835 (
    .a 2 2 <| .nil _ _) ?_
  refine aw_w [(0, .slice (some ⟨0, 0, none⟩) 2 0), (1, .slice (some ⟨1, 0, none⟩) 2 0), (4, .bool false), (5, .int .i64 1), (12, .int .i64 2), (13, .int .i64 1), (14, .bool true), (24, .bool false)] [(0, ⟨[.int .i64 0, .int .i64 0, .int .i64 10, .int .i64 0], 29, true, 2⟩), (1, ⟨[.int .i64 0, .int .i64 0, .int .i64 10, .int .i64 0], 29, true, 2⟩)] ?_
  refine aw_d 7671 (
    .a 8 2 <| .p (does_e false ((show (!((10 == 10) && ((0 == 0) && true))) = false from by decide))) <| .nil _ _) ?_
  refine aw_fl 15343 ?_
  refine aw_sk ?_
  refine block_normal ?_
  refine then_normal ?_
  refine aw_p1 (
    .a 2 2 <| .nil _ _) ?_
  refine then_normal ?_
  refine al_round ?_
  refine aw_p 239 (
    .a 1 2 <| .nil _ _) ?_
  refine aw_sq 478 479 ?_
  refine aw_fl 957 ?_
  refine aw_ex 0 ?_
  refine then_exit ?_
  refine then_exit ?_
  refine block_exit ?_
  refine then_normal ?_
  refine aw_p 31 (
    .a 1 2 <| .nil _ _) ?_
  refine aw_rt ?_
  exact en_ret [.bool true] (by kernel_rfl)
theorem au_segBegun_47  :
    AC Try.prog 53 0 ([.int .i64 0, .int .i64 1]) [] (.agg #[.int .i64 0, .int .i64 1]) [] := by
  refine ac_in Try.func53 (fun w0 W pin => ?_)
  refine aw_p 3 (
    .a 1 1 <| .nil _ _) ?_
  refine aw_p 7 (
    .a 4 2 <| .nil _ _) ?_
  refine aw_rt ?_
  exact en_ret [.agg #[.int .i64 0, .int .i64 1]] (by kernel_rfl)
theorem au_segBegun_48  :
    AC Try.prog 53 0 ([.int .i64 1, .int .i64 0]) [] (.agg #[.int .i64 1, .int .i64 0]) [] := by
  refine ac_in Try.func53 (fun w0 W pin => ?_)
  refine aw_p 3 (
    .a 1 1 <| .nil _ _) ?_
  refine aw_p 7 (
    .a 4 2 <| .nil _ _) ?_
  refine aw_rt ?_
  exact en_ret [.agg #[.int .i64 1, .int .i64 0]] (by kernel_rfl)
theorem au_segBegun_49  :
    AC Try.prog 56 0 ([.agg #[.int .i64 0, .int .i64 1]]) [] (.agg #[.int .i64 0, .int .i64 1]) [] := by
  refine ac_in Try.func56 (fun w0 W pin => ?_)
  refine aw_p 3 (
    .a 2 1 <| .nil _ _) ?_
  refine aw_d 7 (
    .a 2 3 <| .p (does_c (au_segBegun_4)) <| .a 2 3 <| .p (does_c (au_segBegun_9)) <| .a 2 3 <| .nil _ _) ?_
  refine aw_rt ?_
  exact en_ret [.agg #[.int .i64 0, .int .i64 1]] (by kernel_rfl)
theorem au_segBegun_50  :
    AC Try.prog 56 0 ([.agg #[.int .i64 1, .int .i64 0]]) [] (.agg #[.int .i64 1, .int .i64 0]) [] := by
  refine ac_in Try.func56 (fun w0 W pin => ?_)
  refine aw_p 3 (
    .a 2 1 <| .nil _ _) ?_
  refine aw_d 7 (
    .a 2 3 <| .p (does_c (au_segBegun_9)) <| .a 2 3 <| .p (does_c (au_segBegun_4)) <| .a 2 3 <| .nil _ _) ?_
  refine aw_rt ?_
  exact en_ret [.agg #[.int .i64 1, .int .i64 0]] (by kernel_rfl)
theorem au_segBegun_51  :
    AC Try.prog 117 0 ([.agg #[.int .i64 0, .int .i64 0], .agg #[.int .i64 0, .int .i64 1]]) [] (.agg #[.int .i64 0, .int .i64 1]) [] := by
  refine ac_in Try.func117 (fun w0 W pin => ?_)
  refine aw_p 3 (
    .a 3 1 <| .nil _ _) ?_
  refine aw_d 7 (
    .a 1 4 <| .p (does_c (au_segBegun_5)) <| .a 1 4 <| .p (does_c (au_segBegun_49)) <| .a 2 4 <| .nil _ _) ?_
  refine aw_p 15 (
    .a 12 4 <| .nil _ _) ?_
  refine aw_rt ?_
  exact en_ret [.agg #[.int .i64 0, .int .i64 1]] (by kernel_rfl)
theorem au_segBegun_52  :
    AC Try.prog 80 0 ([.agg #[.int .i64 0, .int .i64 0], .agg #[.int .i64 1, .int .i64 1], .agg #[.int .i64 0, .int .i64 1]]) [] (.int .i64 1) [] := by
  refine ac_in Try.func80 (fun w0 W pin => ?_)
  refine aw_p 3 (
    .a 4 1 <| .nil _ _) ?_
  refine aw_d 7 (
    .a 2 4 <| .p (does_c (au_segBegun_11)) <| .a 2 4 <| .p (does_c (au_segBegun_51)) <| .a 4 4 <| .nil _ _) ?_
  refine aw_p 15 (
    .a 12 6 <| .nil _ _) ?_
  refine aw_w [(6, .int .i64 1)] [] ?_
  refine aw_rt ?_
  exact en_ret [.int .i64 1] (by kernel_rfl)
theorem au_segBegun_53  :
    AC Try.prog 116 0 ([.int .i64 1]) [] (.bool false) [] := by
  refine ac_in Try.func116 (fun w0 W pin => ?_)
  refine aw_p 3 (
    .a 1 1 <| .nil _ _) ?_
  refine aw_p 7 (
    .a 4 1 <| .nil _ _) ?_
  refine aw_rt ?_
  exact en_ret [.bool false] (by kernel_rfl)
theorem au_segBegun_54  :
    AC Try.prog 79 0 ([.int .i64 1, .int .i64 0]) [] (.int .i64 1) [] := by
  refine ac_in Try.func79 (fun w0 W pin => ?_)
  refine aw_p 3 (
    .a 1 1 <| .nil _ _) ?_
  refine aw_p 7 (
    .a 1 1 <| .p (does_c (au_segBegun_53)) <| .a 1 1 <| .nil _ _) ?_
  refine aw_p 15 (
    .a 1 1 <| .p (does_c (au_segBegun_14)) <| .a 1 1 <| .nil _ _) ?_
  refine aw_sq 30 31 ?_
  refine aw_p 61 (
    .a 1 1 <| .nil _ _) ?_
  refine aw_fl 123 ?_
  refine aw_sk ?_
  refine then_normal ?_
  refine aw_sq 62 63 ?_
  refine aw_p 125 (
    .a 1 1 <| .nil _ _) ?_
  refine aw_fl 251 ?_
  refine aw_sk ?_
  refine then_normal ?_
  refine aw_sq 126 127 ?_
  refine aw_p 253 (
    .a 3 1 <| .nil _ _) ?_
  refine aw_fl 507 ?_
  refine aw_sk ?_
  refine then_normal ?_
  refine aw_sq 254 255 ?_
  refine aw_p 509 (
    .a 3 1 <| .nil _ _) ?_
  refine aw_tr 1018 ?_
  refine aw_p 2037 (
    .a 1 1 <| .nil _ _) ?_
  refine aw_rt ?_
  refine then_ret ?_
  exact en_ret [.int .i64 1] (by kernel_rfl)
theorem au_segBegun_55  :
    AC Try.prog 35 0 ([.agg #[.int .i64 0, .int .i64 0], .agg #[.int .i64 1, .int .i64 1], .agg #[.int .i64 0, .int .i64 1]]) [] (.int .i64 1) [] := by
  refine ac_in Try.func35 (fun w0 W pin => ?_)
  refine aw_p 3 (
    .a 4 1 <| .nil _ _) ?_
  refine aw_p 7 (
    .a 3 4 <| .p (does_c (au_segBegun_52)) <| .p (does_c (au_segBegun_54)) <| .a 1 4 <| .nil _ _) ?_
  refine aw_rt ?_
  exact en_ret [.int .i64 1] (by kernel_rfl)
theorem au_segBegun_56  :
    AC Try.prog 117 0 ([.agg #[.int .i64 0, .int .i64 0], .agg #[.int .i64 1, .int .i64 0]]) [] (.agg #[.int .i64 1, .int .i64 0]) [] := by
  refine ac_in Try.func117 (fun w0 W pin => ?_)
  refine aw_p 3 (
    .a 3 1 <| .nil _ _) ?_
  refine aw_d 7 (
    .a 1 4 <| .p (does_c (au_segBegun_5)) <| .a 1 4 <| .p (does_c (au_segBegun_50)) <| .a 2 4 <| .nil _ _) ?_
  refine aw_p 15 (
    .a 12 4 <| .nil _ _) ?_
  refine aw_rt ?_
  exact en_ret [.agg #[.int .i64 1, .int .i64 0]] (by kernel_rfl)
theorem au_segBegun_57  :
    AC Try.prog 80 0 ([.agg #[.int .i64 0, .int .i64 0], .agg #[.int .i64 1, .int .i64 1], .agg #[.int .i64 1, .int .i64 0]]) [] (.int .i64 (-1)) [] := by
  refine ac_in Try.func80 (fun w0 W pin => ?_)
  refine aw_p 3 (
    .a 4 1 <| .nil _ _) ?_
  refine aw_d 7 (
    .a 2 4 <| .p (does_c (au_segBegun_11)) <| .a 2 4 <| .p (does_c (au_segBegun_56)) <| .a 4 4 <| .nil _ _) ?_
  refine aw_p 15 (
    .a 12 6 <| .nil _ _) ?_
  refine aw_w [(6, .int .i64 (-1))] [] ?_
  refine aw_rt ?_
  exact en_ret [.int .i64 (-1)] (by kernel_rfl)
theorem au_segBegun_58  :
    AC Try.prog 116 0 ([.int .i64 (-1)]) [] (.bool false) [] := by
  refine ac_in Try.func116 (fun w0 W pin => ?_)
  refine aw_p 3 (
    .a 1 1 <| .nil _ _) ?_
  refine aw_p 7 (
    .a 4 1 <| .nil _ _) ?_
  refine aw_rt ?_
  exact en_ret [.bool false] (by kernel_rfl)
theorem au_segBegun_59  :
    AC Try.prog 79 0 ([.int .i64 (-1), .int .i64 0]) [] (.int .i64 (-1)) [] := by
  refine ac_in Try.func79 (fun w0 W pin => ?_)
  refine aw_p 3 (
    .a 1 1 <| .nil _ _) ?_
  refine aw_p 7 (
    .a 1 1 <| .p (does_c (au_segBegun_58)) <| .a 1 1 <| .nil _ _) ?_
  refine aw_p 15 (
    .a 1 1 <| .p (does_c (au_segBegun_14)) <| .a 1 1 <| .nil _ _) ?_
  refine aw_sq 30 31 ?_
  refine aw_p 61 (
    .a 1 1 <| .nil _ _) ?_
  refine aw_fl 123 ?_
  refine aw_sk ?_
  refine then_normal ?_
  refine aw_sq 62 63 ?_
  refine aw_p 125 (
    .a 1 1 <| .nil _ _) ?_
  refine aw_fl 251 ?_
  refine aw_sk ?_
  refine then_normal ?_
  refine aw_sq 126 127 ?_
  refine aw_p 253 (
    .a 3 1 <| .nil _ _) ?_
  refine aw_tr 506 ?_
  refine aw_p 1013 (
    .a 1 1 <| .nil _ _) ?_
  refine aw_rt ?_
  refine then_ret ?_
  exact en_ret [.int .i64 (-1)] (by kernel_rfl)
theorem au_segBegun_60  :
    AC Try.prog 35 0 ([.agg #[.int .i64 0, .int .i64 0], .agg #[.int .i64 1, .int .i64 1], .agg #[.int .i64 1, .int .i64 0]]) [] (.int .i64 (-1)) [] := by
  refine ac_in Try.func35 (fun w0 W pin => ?_)
  refine aw_p 3 (
    .a 4 1 <| .nil _ _) ?_
  refine aw_p 7 (
    .a 3 4 <| .p (does_c (au_segBegun_57)) <| .p (does_c (au_segBegun_59)) <| .a 1 4 <| .nil _ _) ?_
  refine aw_rt ?_
  exact en_ret [.int .i64 (-1)] (by kernel_rfl)
theorem au_segBegun_61  :
    AC Try.prog 117 0 ([.agg #[.int .i64 0, .int .i64 1], .agg #[.int .i64 1, .int .i64 0]]) [] (.agg #[.int .i64 1, .int .i64 (-1)]) [] := by
  refine ac_in Try.func117 (fun w0 W pin => ?_)
  refine aw_p 3 (
    .a 3 1 <| .nil _ _) ?_
  refine aw_d 7 (
    .a 1 4 <| .p (does_c (au_segBegun_49)) <| .a 1 4 <| .p (does_c (au_segBegun_50)) <| .a 2 4 <| .nil _ _) ?_
  refine aw_p 15 (
    .a 12 4 <| .nil _ _) ?_
  refine aw_rt ?_
  exact en_ret [.agg #[.int .i64 1, .int .i64 (-1)]] (by kernel_rfl)
theorem au_segBegun_62  :
    AC Try.prog 117 0 ([.agg #[.int .i64 0, .int .i64 1], .agg #[.int .i64 0, .int .i64 0]]) [] (.agg #[.int .i64 0, .int .i64 (-1)]) [] := by
  refine ac_in Try.func117 (fun w0 W pin => ?_)
  refine aw_p 3 (
    .a 3 1 <| .nil _ _) ?_
  refine aw_d 7 (
    .a 1 4 <| .p (does_c (au_segBegun_49)) <| .a 1 4 <| .p (does_c (au_segBegun_5)) <| .a 2 4 <| .nil _ _) ?_
  refine aw_p 15 (
    .a 12 4 <| .nil _ _) ?_
  refine aw_rt ?_
  exact en_ret [.agg #[.int .i64 0, .int .i64 (-1)]] (by kernel_rfl)
theorem au_segBegun_63  :
    AC Try.prog 80 0 ([.agg #[.int .i64 0, .int .i64 1], .agg #[.int .i64 1, .int .i64 0], .agg #[.int .i64 0, .int .i64 0]]) [] (.int .i64 (-1)) [] := by
  refine ac_in Try.func80 (fun w0 W pin => ?_)
  refine aw_p 3 (
    .a 4 1 <| .nil _ _) ?_
  refine aw_d 7 (
    .a 2 4 <| .p (does_c (au_segBegun_61)) <| .a 2 4 <| .p (does_c (au_segBegun_62)) <| .a 4 4 <| .nil _ _) ?_
  refine aw_p 15 (
    .a 12 6 <| .nil _ _) ?_
  refine aw_w [(6, .int .i64 (-1))] [] ?_
  refine aw_rt ?_
  exact en_ret [.int .i64 (-1)] (by kernel_rfl)
theorem au_segBegun_64  :
    AC Try.prog 35 0 ([.agg #[.int .i64 0, .int .i64 1], .agg #[.int .i64 1, .int .i64 0], .agg #[.int .i64 0, .int .i64 0]]) [] (.int .i64 (-1)) [] := by
  refine ac_in Try.func35 (fun w0 W pin => ?_)
  refine aw_p 3 (
    .a 4 1 <| .nil _ _) ?_
  refine aw_p 7 (
    .a 3 4 <| .p (does_c (au_segBegun_63)) <| .p (does_c (au_segBegun_59)) <| .a 1 4 <| .nil _ _) ?_
  refine aw_rt ?_
  exact en_ret [.int .i64 (-1)] (by kernel_rfl)
theorem au_segBegun_65  :
    AC Try.prog 117 0 ([.agg #[.int .i64 0, .int .i64 1], .agg #[.int .i64 1, .int .i64 1]]) [] (.agg #[.int .i64 1, .int .i64 0]) [] := by
  refine ac_in Try.func117 (fun w0 W pin => ?_)
  refine aw_p 3 (
    .a 3 1 <| .nil _ _) ?_
  refine aw_d 7 (
    .a 1 4 <| .p (does_c (au_segBegun_49)) <| .a 1 4 <| .p (does_c (au_segBegun_10)) <| .a 2 4 <| .nil _ _) ?_
  refine aw_p 15 (
    .a 12 4 <| .nil _ _) ?_
  refine aw_rt ?_
  exact en_ret [.agg #[.int .i64 1, .int .i64 0]] (by kernel_rfl)
theorem au_segBegun_66  :
    AC Try.prog 80 0 ([.agg #[.int .i64 0, .int .i64 1], .agg #[.int .i64 1, .int .i64 0], .agg #[.int .i64 1, .int .i64 1]]) [] (.int .i64 1) [] := by
  refine ac_in Try.func80 (fun w0 W pin => ?_)
  refine aw_p 3 (
    .a 4 1 <| .nil _ _) ?_
  refine aw_d 7 (
    .a 2 4 <| .p (does_c (au_segBegun_61)) <| .a 2 4 <| .p (does_c (au_segBegun_65)) <| .a 4 4 <| .nil _ _) ?_
  refine aw_p 15 (
    .a 12 6 <| .nil _ _) ?_
  refine aw_w [(6, .int .i64 1)] [] ?_
  refine aw_rt ?_
  exact en_ret [.int .i64 1] (by kernel_rfl)
theorem au_segBegun_67  :
    AC Try.prog 35 0 ([.agg #[.int .i64 0, .int .i64 1], .agg #[.int .i64 1, .int .i64 0], .agg #[.int .i64 1, .int .i64 1]]) [] (.int .i64 1) [] := by
  refine ac_in Try.func35 (fun w0 W pin => ?_)
  refine aw_p 3 (
    .a 4 1 <| .nil _ _) ?_
  refine aw_p 7 (
    .a 3 4 <| .p (does_c (au_segBegun_66)) <| .p (does_c (au_segBegun_54)) <| .a 1 4 <| .nil _ _) ?_
  refine aw_rt ?_
  exact en_ret [.int .i64 1] (by kernel_rfl)
theorem au_segBegun_68  :
    AC Try.prog 96 0 ([.agg #[.int .i64 0, .int .i64 0], .agg #[.int .i64 1, .int .i64 1], .agg #[.int .i64 0, .int .i64 1], .agg #[.int .i64 1, .int .i64 0]]) [] (.int .i64 1) [] := by
  refine ac_in Try.func96 (fun w0 W pin => ?_)
  refine aw_p 3 (
    .a 5 1 <| .nil _ _) ?_
  refine aw_d 7 (
    .a 1 5 <| .p (does_c (au_segBegun_5)) <| .a 1 5 <| .p (does_c (au_segBegun_10)) <| .a 1 5 <| .p (does_c (au_segBegun_49)) <| .a 1 5 <| .p (does_c (au_segBegun_50)) <| .a 4 5 <| .nil _ _) ?_
  refine aw_sq 14 15 ?_
  refine aw_d 29 (
    .a 3 5 <| .p (does_c (au_segBegun_55)) <| .a 3 5 <| .p (does_c (au_segBegun_60)) <| .a 6 5 <| .p (does_c (au_segBegun_64)) <| .a 3 5 <| .p (does_c (au_segBegun_67)) <| .a 3 5 <| .nil _ _) ?_
  refine aw_w [(4, .pointer (some ⟨1, 0, none⟩)), (5, .pointer (some ⟨2, 0, none⟩)), (6, .pointer (some ⟨3, 0, none⟩)), (7, .pointer (some ⟨4, 0, none⟩)), (8, .int .i64 0), (38, .bool true)] [(1, ⟨[.int .i64 0, .int .i64 0], 29, true, 2⟩), (2, ⟨[.int .i64 1, .int .i64 1], 29, true, 2⟩), (3, ⟨[.int .i64 0, .int .i64 1], 29, true, 2⟩), (4, ⟨[.int .i64 1, .int .i64 0], 29, true, 2⟩)] ?_
  refine aw_tr 58 ?_
  refine aw_p 117 (
    .a 1 5 <| .nil _ _) ?_
  refine aw_rt ?_
  refine then_ret ?_
  exact en_ret [.int .i64 1] (by kernel_rfl)
theorem au_segBegun_69  :
    AC Try.prog 78 0 ([.agg #[.int .i64 0, .int .i64 1], .agg #[.int .i64 1, .int .i64 0], .agg #[.int .i64 0, .int .i64 0]]) [] (.bool false) [] := by
  refine ac_in Try.func78 (fun w0 W pin => ?_)
  refine aw_p 3 (
    .a 4 1 <| .nil _ _) ?_
  refine aw_p 7 (
    .a 3 4 <| .p (does_c (au_segBegun_64)) <| .a 9 4 <| .nil _ _) ?_
  refine aw_rt ?_
  exact en_ret [.bool false] (by kernel_rfl)
theorem au_segBegun_70  :
    AC Try.prog 121 1 ([.agg #[.int .i64 0, .int .i64 0], .agg #[.int .i64 0, .int .i64 1], .agg #[.int .i64 1, .int .i64 0], .pointer (some ⟨0, 0, none⟩)]) [(0, ⟨[.slice none 0 0], 24, true, 1⟩)] (.tuple #[]) [(0, ⟨[.slice none 0 0], 24, true, 1⟩)] := by
  refine ac_in Try.func121 (fun w0 W pin => ?_)
  refine aw_p 3 (
    .a 3 1 <| .nil _ _) ?_
  refine aw_sq 6 7 ?_
  refine aw_p 13 (
    .a 3 4 <| .p (does_c (au_segBegun_69)) <| .a 1 4 <| .nil _ _) ?_
  refine aw_tr 26 ?_
  refine aw_rt ?_
  refine then_ret ?_
  exact en_ret [] (by kernel_rfl)
theorem au_segBegun_71  :
    AC Try.prog 78 0 ([.agg #[.int .i64 0, .int .i64 1], .agg #[.int .i64 1, .int .i64 0], .agg #[.int .i64 1, .int .i64 1]]) [] (.bool false) [] := by
  refine ac_in Try.func78 (fun w0 W pin => ?_)
  refine aw_p 3 (
    .a 4 1 <| .nil _ _) ?_
  refine aw_p 7 (
    .a 3 4 <| .p (does_c (au_segBegun_67)) <| .a 9 4 <| .nil _ _) ?_
  refine aw_rt ?_
  exact en_ret [.bool false] (by kernel_rfl)
theorem au_segBegun_72  :
    AC Try.prog 121 1 ([.agg #[.int .i64 1, .int .i64 1], .agg #[.int .i64 0, .int .i64 1], .agg #[.int .i64 1, .int .i64 0], .pointer (some ⟨0, 0, none⟩)]) [(0, ⟨[.slice none 0 0], 24, true, 1⟩)] (.tuple #[]) [(0, ⟨[.slice none 0 0], 24, true, 1⟩)] := by
  refine ac_in Try.func121 (fun w0 W pin => ?_)
  refine aw_p 3 (
    .a 3 1 <| .nil _ _) ?_
  refine aw_sq 6 7 ?_
  refine aw_p 13 (
    .a 3 4 <| .p (does_c (au_segBegun_71)) <| .a 1 4 <| .nil _ _) ?_
  refine aw_tr 26 ?_
  refine aw_rt ?_
  refine then_ret ?_
  exact en_ret [] (by kernel_rfl)
theorem au_segBegun_73  :
    AC Try.prog 78 0 ([.agg #[.int .i64 0, .int .i64 0], .agg #[.int .i64 1, .int .i64 1], .agg #[.int .i64 0, .int .i64 1]]) [] (.bool false) [] := by
  refine ac_in Try.func78 (fun w0 W pin => ?_)
  refine aw_p 3 (
    .a 4 1 <| .nil _ _) ?_
  refine aw_p 7 (
    .a 3 4 <| .p (does_c (au_segBegun_55)) <| .a 9 4 <| .nil _ _) ?_
  refine aw_rt ?_
  exact en_ret [.bool false] (by kernel_rfl)
theorem au_segBegun_74  :
    AC Try.prog 121 1 ([.agg #[.int .i64 0, .int .i64 1], .agg #[.int .i64 0, .int .i64 0], .agg #[.int .i64 1, .int .i64 1], .pointer (some ⟨0, 0, none⟩)]) [(0, ⟨[.slice none 0 0], 24, true, 1⟩)] (.tuple #[]) [(0, ⟨[.slice none 0 0], 24, true, 1⟩)] := by
  refine ac_in Try.func121 (fun w0 W pin => ?_)
  refine aw_p 3 (
    .a 3 1 <| .nil _ _) ?_
  refine aw_sq 6 7 ?_
  refine aw_p 13 (
    .a 3 4 <| .p (does_c (au_segBegun_73)) <| .a 1 4 <| .nil _ _) ?_
  refine aw_tr 26 ?_
  refine aw_rt ?_
  refine then_ret ?_
  exact en_ret [] (by kernel_rfl)
theorem au_segBegun_75  :
    AC Try.prog 78 0 ([.agg #[.int .i64 0, .int .i64 0], .agg #[.int .i64 1, .int .i64 1], .agg #[.int .i64 1, .int .i64 0]]) [] (.bool false) [] := by
  refine ac_in Try.func78 (fun w0 W pin => ?_)
  refine aw_p 3 (
    .a 4 1 <| .nil _ _) ?_
  refine aw_p 7 (
    .a 3 4 <| .p (does_c (au_segBegun_60)) <| .a 9 4 <| .nil _ _) ?_
  refine aw_rt ?_
  exact en_ret [.bool false] (by kernel_rfl)
theorem au_segBegun_76  :
    AC Try.prog 121 1 ([.agg #[.int .i64 1, .int .i64 0], .agg #[.int .i64 0, .int .i64 0], .agg #[.int .i64 1, .int .i64 1], .pointer (some ⟨0, 0, none⟩)]) [(0, ⟨[.slice none 0 0], 24, true, 1⟩)] (.tuple #[]) [(0, ⟨[.slice none 0 0], 24, true, 1⟩)] := by
  refine ac_in Try.func121 (fun w0 W pin => ?_)
  refine aw_p 3 (
    .a 3 1 <| .nil _ _) ?_
  refine aw_sq 6 7 ?_
  refine aw_p 13 (
    .a 3 4 <| .p (does_c (au_segBegun_75)) <| .a 1 4 <| .nil _ _) ?_
  refine aw_tr 26 ?_
  refine aw_rt ?_
  refine then_ret ?_
  exact en_ret [] (by kernel_rfl)
theorem au_segBegun_77  :
    AC Try.prog 97 0 ([.agg #[.int .i64 0, .int .i64 0], .agg #[.int .i64 1, .int .i64 1], .agg #[.int .i64 0, .int .i64 1], .agg #[.int .i64 1, .int .i64 0]]) [] (.slice none 0 0) [] := by
  refine ac_in Try.func97 (fun w0 W pin => ?_)
  refine aw_p 3 (
    .a 5 1 <| .nil _ _) ?_
  refine aw_p 7 (
    .a 1 5 <| .nil _ _) ?_
  refine aw_p 15 (
    .a 2 6 <| .nil _ _) ?_
  refine aw_p 31 (
    .a 4 6 <| .p (does_k [5] (au_segBegun_70)) <| .nil _ _) ?_
  refine aw_p 63 (
    .a 4 6 <| .p (does_k [5] (au_segBegun_72)) <| .nil _ _) ?_
  refine aw_p 127 (
    .a 4 6 <| .p (does_k [5] (au_segBegun_74)) <| .nil _ _) ?_
  refine aw_p 255 (
    .a 4 6 <| .p (does_k [5] (au_segBegun_76)) <| .nil _ _) ?_
  refine aw_w [(8, .slice none 0 0), (9, .pointer (some ⟨5, 0, none⟩))] [(5, ⟨[.slice none 0 0], 24, true, 1⟩)] ?_
  refine aw_p 511 (
    .a 2 6 <| .nil _ _) ?_
  refine aw_rt ?_
  exact en_ret [.slice none 0 0] (by kernel_rfl)
theorem au_segBegun_78  :
    AC Try.prog 120 0 ([.int .u64 1, .int .u64 1]) [] (.tuple #[.int .u64 0, .int .u64 1]) [] := by
  refine ac_in Try.func120 (fun w0 W pin => ?_)
  refine aw_p 3 (
    .a 2 1 <| .nil _ _) ?_
  refine aw_p 7 (
    .a 3 1 <| .nil _ _) ?_
  refine aw_p 15 (
    .a 3 1 <| .nil _ _) ?_
  refine aw_p 31 (
    .a 3 1 <| .nil _ _) ?_
  refine aw_p 63 (
    .a 3 1 <| .nil _ _) ?_
  refine aw_p 127 (
    .a 4 1 <| .nil _ _) ?_
  refine aw_p 255 (
    .a 7 1 <| .nil _ _) ?_
  refine aw_w [(0, .int .u64 1), (1, .int .u64 1), (4, .int .u64 0), (5, .int .u64 0), (6, .int .u64 1), (7, .int .u64 0), (9, .int .u64 0), (11, .int .u64 0)] [] ?_
  refine aw_p 511 (
    .a 3 1 <| .nil _ _) ?_
  refine aw_p 1023 (
    .a 3 1 <| .nil _ _) ?_
  refine aw_p 2047 (
    .a 6 1 <| .nil _ _) ?_
  refine aw_p 4095 (
    .a 9 1 <| .nil _ _) ?_
  refine aw_p 8191 (
    .a 4 1 <| .nil _ _) ?_
  refine aw_w [(4, .int .u64 0), (5, .int .u64 1)] [] ?_
  refine aw_rt ?_
  exact en_ret [.int .u64 0, .int .u64 1] (by kernel_rfl)
theorem au_segBegun_79  :
    AC Try.prog 92 0 ([.int .i64 1, .int .i64 1]) [] (.agg #[.int .i64 0, .int .u64 1]) [] := by
  refine ac_in Try.func92 (fun w0 W pin => ?_)
  refine aw_p 3 (
    .a 1 1 <| .nil _ _) ?_
  refine aw_p 7 (
    .a 4 2 <| .p (does_c (au_segBegun_78)) <| .a 5 2 <| .nil _ _) ?_
  refine aw_sq 14 15 ?_
  refine aw_p 29 (
    .a 2 2 <| .nil _ _) ?_
  refine aw_fl 59 ?_
  refine aw_sk ?_
  refine then_normal ?_
  refine aw_sq 30 31 ?_
  refine aw_p 61 (
    .a 2 2 <| .nil _ _) ?_
  refine aw_fl 123 ?_
  refine aw_sk ?_
  refine then_normal ?_
  refine aw_p 63 (
    .a 5 2 <| .nil _ _) ?_
  refine aw_rt ?_
  exact en_ret [.agg #[.int .i64 0, .int .u64 1]] (by kernel_rfl)
theorem au_segBegun_80  :
    AC Try.prog 154 0 ([.int .u64 0, .int .u64 1, .int .u64 2]) [] (.tuple #[.int .u64 0, .int .u64 1]) [] := by
  refine ac_in Try.func154 (fun w0 W pin => ?_)
  refine aw_p 3 (
    .a 2 1 <| .nil _ _) ?_
  refine aw_sq 6 7 ?_
  refine aw_p 13 (
    .a 2 1 <| .nil _ _) ?_
  refine aw_fl 27 ?_
  refine aw_sk ?_
  refine then_normal ?_
  refine aw_sq 14 15 ?_
  refine aw_p 29 (
    .a 3 1 <| .nil _ _) ?_
  refine aw_fl 59 ?_
  refine aw_sk ?_
  refine then_normal ?_
  refine aw_sq 30 31 ?_
  refine aw_p 61 (
    .a 2 1 <| .nil _ _) ?_
  refine aw_tr 122 ?_
  refine aw_d 245 (
    .a 8 1 <| .nil _ _) ?_
  refine aw_rt ?_
  refine then_ret ?_
  exact en_ret [.int .u64 0, .int .u64 1] (by kernel_rfl)
theorem au_segBegun_81  :
    AC Try.prog 123 0 ([.agg #[.int .i64 0, .int .u64 1], .int .i64 2]) [] (.tuple #[.agg #[.int .i64 0, .int .u64 0], .int .i64 1, .int .i64 0]) [] := by
  refine ac_in Try.func123 (fun w0 W pin => ?_)
  refine aw_p 3 (
    .a 4 1 <| .nil _ _) ?_
  refine aw_sq 6 7 ?_
  refine aw_p 13 (
    .a 2 3 <| .nil _ _) ?_
  refine aw_fl 27 ?_
  refine aw_sk ?_
  refine then_normal ?_
  refine aw_p 15 (
    .a 4 3 <| .nil _ _) ?_
  refine aw_sq 30 31 ?_
  refine aw_p 61 (
    .a 1 3 <| .nil _ _) ?_
  refine aw_fl 123 ?_
  refine aw_sk ?_
  refine then_normal ?_
  refine aw_d 63 (
    .a 14 3 <| .nil _ _) ?_
  refine aw_w [(1, .int .i64 2), (2, .pointer (some ⟨1, 0, none⟩)), (4, .pointer (some ⟨2, 0, none⟩)), (5, .int .i64 0), (6, .int .i64 0), (7, .bool false), (8, .int .u64 0), (9, .int .u64 0)] [(1, ⟨[.int .i64 0, .int .u64 1], 90, true, 2⟩), (2, ⟨[.int .i64 0, .int .u64 0], 90, true, 2⟩)] ?_
  refine aw_p 127 (
    .a 5 3 <| .p (does_c (au_segBegun_80)) <| .a 5 3 <| .nil _ _) ?_
  refine aw_sq 254 255 ?_
  refine aw_p 509 (
    .a 1 3 <| .nil _ _) ?_
  refine aw_fl 1019 ?_
  refine aw_sk ?_
  refine then_normal ?_
  refine aw_p 511 (
    .a 9 3 <| .nil _ _) ?_
  refine aw_rt ?_
  exact en_ret [.agg #[.int .i64 0, .int .u64 0], .int .i64 1, .int .i64 0] (by kernel_rfl)
theorem au_segBegun_82  :
    AC Try.prog 93 0 ([.int .i64 0]) [] (.agg #[.int .i64 0, .int .u64 0]) [] := by
  refine ac_in Try.func93 (fun w0 W pin => ?_)
  refine aw_p 3 (
    .a 1 1 <| .nil _ _) ?_
  refine aw_p 7 (
    .a 6 2 <| .nil _ _) ?_
  refine aw_rt ?_
  exact en_ret [.agg #[.int .i64 0, .int .u64 0]] (by kernel_rfl)
theorem au_segBegun_83  :
    AC Try.prog 124 0 ([.agg #[.int .i64 0, .int .u64 0]]) [] (.tuple #[.int .i64 0, .int .i64 0]) [] := by
  refine ac_in Try.func124 (fun w0 W pin => ?_)
  refine aw_p 3 (
    .a 3 1 <| .nil _ _) ?_
  refine aw_sq 6 7 ?_
  refine aw_d 13 (
    .a 4 2 <| .p (does_c (au_segBegun_82)) <| .p (does_e false ((show (!((0 == 0) && ((0 == 0) && true))) = false from by decide))) <| .nil _ _) ?_
  refine aw_fl 27 ?_
  refine aw_sk ?_
  refine then_normal ?_
  refine aw_p 15 (
    .a 5 2 <| .nil _ _) ?_
  refine aw_rt ?_
  exact en_ret [.int .i64 0, .int .i64 0] (by kernel_rfl)
theorem au_segBegun_84  :
    AC Try.prog 155 0 ([.int .i64 1]) [] (.int .u64 1) [] := by
  refine ac_in Try.func155 (fun w0 W pin => ?_)
  refine aw_p 3 (
    .a 1 1 <| .nil _ _) ?_
  refine aw_sq 6 7 ?_
  refine aw_p 13 (
    .a 2 1 <| .nil _ _) ?_
  refine aw_fl 27 ?_
  refine aw_sk ?_
  refine then_normal ?_
  refine aw_p 15 (
    .a 3 1 <| .nil _ _) ?_
  refine aw_rt ?_
  exact en_ret [.int .u64 1] (by kernel_rfl)
theorem au_segBegun_85  :
    AC Try.prog 155 0 ([.int .i64 2]) [] (.int .u64 2) [] := by
  refine ac_in Try.func155 (fun w0 W pin => ?_)
  refine aw_p 3 (
    .a 1 1 <| .nil _ _) ?_
  refine aw_sq 6 7 ?_
  refine aw_p 13 (
    .a 2 1 <| .nil _ _) ?_
  refine aw_fl 27 ?_
  refine aw_sk ?_
  refine then_normal ?_
  refine aw_p 15 (
    .a 3 1 <| .nil _ _) ?_
  refine aw_rt ?_
  exact en_ret [.int .u64 2] (by kernel_rfl)
theorem au_segBegun_86  :
    AC Try.prog 156 0 ([.int .u64 1, .int .u64 2]) [] (.int .u64 1) [] := by
  refine ac_in Try.func156 (fun w0 W pin => ?_)
  refine aw_p 3 (
    .a 1 1 <| .nil _ _) ?_
  refine aw_sq 6 7 ?_
  refine aw_bl 0 13 ?_
  refine aw_lp 27 ?_
  refine al_round ?_
  refine aw_sq 54 55 ?_
  refine aw_p 109 (
    .a 2 1 <| .nil _ _) ?_
  refine aw_tr 218 ?_
  refine aw_sk ?_
  refine then_normal ?_
  refine aw_bl 1 111 ?_
  refine aw_d1 (
    .a 6 1 <| .nil _ _) ?_
  refine block_normal ?_
  refine then_normal ?_
  refine al_round ?_
  refine aw_sq 54 55 ?_
  refine aw_p 109 (
    .a 2 1 <| .nil _ _) ?_
  refine aw_tr 218 ?_
  refine aw_sk ?_
  refine then_normal ?_
  refine aw_bl 1 111 ?_
  refine aw_d1 (
    .a 6 1 <| .nil _ _) ?_
  refine block_normal ?_
  refine then_normal ?_
  refine al_round ?_
  refine aw_sq 54 55 ?_
  refine aw_p 109 (
    .a 2 1 <| .nil _ _) ?_
  refine aw_fl 219 ?_
  refine aw_ex 0 ?_
  refine then_exit ?_
  refine then_exit ?_
  refine block_exit ?_
  refine then_normal ?_
  refine aw_p 15 (
    .a 2 1 <| .nil _ _) ?_
  refine aw_rt ?_
  exact en_ret [.int .u64 1] (by kernel_rfl)
theorem au_segBegun_87  :
    AC Try.prog 157 0 ([.bool false, .int .u64 1, .int .u64 2]) [] (.tuple #[.agg #[.int .i64 1, .int .i64 2], .int .i64 0]) [] := by
  refine ac_in Try.func157 (fun w0 W pin => ?_)
  refine aw_p 3 (
    .a 2 1 <| .nil _ _) ?_
  refine aw_sq 6 7 ?_
  refine aw_p 13 (
    .a 6 2 <| .nil _ _) ?_
  refine aw_fl 27 ?_
  refine aw_sk ?_
  refine then_normal ?_
  refine aw_sq 14 15 ?_
  refine aw_p 29 (
    .a 1 2 <| .nil _ _) ?_
  refine aw_fl 59 ?_
  refine aw_sk ?_
  refine then_normal ?_
  refine aw_p 31 (
    .a 7 2 <| .nil _ _) ?_
  refine aw_rt ?_
  exact en_ret [.agg #[.int .i64 1, .int .i64 2], .int .i64 0] (by kernel_rfl)
theorem au_segBegun_88  :
    AC Try.prog 125 0 ([.int .i64 1, .int .i64 2]) [] (.tuple #[.agg #[.int .i64 1, .int .i64 2], .int .i64 0]) [] := by
  refine ac_in Try.func125 (fun w0 W pin => ?_)
  refine aw_p 3 (
    .a 2 1 <| .nil _ _) ?_
  refine aw_sq 6 7 ?_
  refine aw_p 13 (
    .a 2 2 <| .nil _ _) ?_
  refine aw_fl 27 ?_
  refine aw_sk ?_
  refine then_normal ?_
  refine aw_p 15 (
    .a 1 2 <| .p (does_c (au_segBegun_84)) <| .a 1 2 <| .p (does_c (au_segBegun_85)) <| .a 2 2 <| .nil _ _) ?_
  refine aw_p 31 (
    .a 2 2 <| .p (does_c (au_segBegun_86)) <| .a 1 2 <| .nil _ _) ?_
  refine aw_d 63 (
    .a 15 2 <| .p (does_c (au_segBegun_87)) <| .a 4 2 <| .nil _ _) ?_
  refine aw_w [(4, .pointer (some ⟨1, 0, none⟩)), (5, .int .i64 0)] [(1, ⟨[.int .i64 1, .int .i64 2], 59, true, 2⟩)] ?_
  refine aw_rt ?_
  exact en_ret [.agg #[.int .i64 1, .int .i64 2], .int .i64 0] (by kernel_rfl)
theorem au_segBegun_89  :
    AC Try.prog 122 0 ([.int .i64 0]) [] (.agg #[.int .i64 0, .int .i64 1]) [] := by
  refine ac_in Try.func122 (fun w0 W pin => ?_)
  refine aw_p 3 (
    .a 1 1 <| .nil _ _) ?_
  refine aw_p 7 (
    .a 4 2 <| .nil _ _) ?_
  refine aw_rt ?_
  exact en_ret [.agg #[.int .i64 0, .int .i64 1]] (by kernel_rfl)
theorem au_segBegun_90  :
    AC Try.prog 155 0 ([.int .i64 0]) [] (.int .u64 0) [] := by
  refine ac_in Try.func155 (fun w0 W pin => ?_)
  refine aw_p 3 (
    .a 1 1 <| .nil _ _) ?_
  refine aw_sq 6 7 ?_
  refine aw_p 13 (
    .a 2 1 <| .nil _ _) ?_
  refine aw_fl 27 ?_
  refine aw_sk ?_
  refine then_normal ?_
  refine aw_p 15 (
    .a 3 1 <| .nil _ _) ?_
  refine aw_rt ?_
  exact en_ret [.int .u64 0] (by kernel_rfl)
theorem au_segBegun_91  :
    AC Try.prog 156 0 ([.int .u64 0, .int .u64 1]) [] (.int .u64 1) [] := by
  refine ac_in Try.func156 (fun w0 W pin => ?_)
  refine aw_p 3 (
    .a 1 1 <| .nil _ _) ?_
  refine aw_sq 6 7 ?_
  refine aw_bl 0 13 ?_
  refine aw_lp 27 ?_
  refine al_round ?_
  refine aw_sq 54 55 ?_
  refine aw_p 109 (
    .a 2 1 <| .nil _ _) ?_
  refine aw_tr 218 ?_
  refine aw_sk ?_
  refine then_normal ?_
  refine aw_bl 1 111 ?_
  refine aw_d1 (
    .a 6 1 <| .nil _ _) ?_
  refine block_normal ?_
  refine then_normal ?_
  refine al_round ?_
  refine aw_sq 54 55 ?_
  refine aw_p 109 (
    .a 2 1 <| .nil _ _) ?_
  refine aw_fl 219 ?_
  refine aw_ex 0 ?_
  refine then_exit ?_
  refine then_exit ?_
  refine block_exit ?_
  refine then_normal ?_
  refine aw_p 15 (
    .a 2 1 <| .nil _ _) ?_
  refine aw_rt ?_
  exact en_ret [.int .u64 1] (by kernel_rfl)
theorem au_segBegun_92  :
    AC Try.prog 174 0 ([.agg #[.int .i64 0, .int .i64 1]]) [] (.bool true) [] := by
  refine ac_in Try.func174 (fun w0 W pin => ?_)
  refine aw_p 3 (
    .a 2 1 <| .nil _ _) ?_
  refine aw_d 7 (
    .a 11 2 <| .p (does_c (au_segBegun_90)) <| .a 2 2 <| .p (does_c (au_segBegun_84)) <| .p (does_c (au_segBegun_91)) <| .a 3 2 <| .nil _ _) ?_
  refine aw_rt ?_
  exact en_ret [.bool true] (by kernel_rfl)
theorem au_segBegun_93  :
    AC Try.prog 158 0 ([.agg #[.int .i64 0, .int .i64 1]]) [] (.agg #[.int .i64 0, .int .i64 1]) [] := by
  refine ac_in Try.func158 (fun w0 W pin => ?_)
  refine aw_p 3 (
    .a 2 1 <| .nil _ _) ?_
  refine aw_sq 6 7 ?_
  refine aw_p 13 (
    .a 1 3 <| .p (does_c (au_segBegun_92)) <| .a 1 3 <| .nil _ _) ?_
  refine aw_fl 27 ?_
  refine aw_sk ?_
  refine then_normal ?_
  refine aw_p 15 (
    .a 2 3 <| .nil _ _) ?_
  refine aw_rt ?_
  exact en_ret [.agg #[.int .i64 0, .int .i64 1]] (by kernel_rfl)
theorem au_segBegun_94  :
    AC Try.prog 174 0 ([.agg #[.int .i64 1, .int .i64 2]]) [] (.bool true) [] := by
  refine ac_in Try.func174 (fun w0 W pin => ?_)
  refine aw_p 3 (
    .a 2 1 <| .nil _ _) ?_
  refine aw_d 7 (
    .a 11 2 <| .p (does_c (au_segBegun_84)) <| .a 2 2 <| .p (does_c (au_segBegun_85)) <| .p (does_c (au_segBegun_86)) <| .a 3 2 <| .nil _ _) ?_
  refine aw_rt ?_
  exact en_ret [.bool true] (by kernel_rfl)
theorem au_segBegun_95  :
    AC Try.prog 158 0 ([.agg #[.int .i64 1, .int .i64 2]]) [] (.agg #[.int .i64 1, .int .i64 2]) [] := by
  refine ac_in Try.func158 (fun w0 W pin => ?_)
  refine aw_p 3 (
    .a 2 1 <| .nil _ _) ?_
  refine aw_sq 6 7 ?_
  refine aw_p 13 (
    .a 1 3 <| .p (does_c (au_segBegun_94)) <| .a 1 3 <| .nil _ _) ?_
  refine aw_fl 27 ?_
  refine aw_sk ?_
  refine then_normal ?_
  refine aw_p 15 (
    .a 2 3 <| .nil _ _) ?_
  refine aw_rt ?_
  exact en_ret [.agg #[.int .i64 1, .int .i64 2]] (by kernel_rfl)
theorem au_segBegun_96  :
    AC Try.prog 120 0 ([.int .u64 0, .int .u64 2]) [] (.tuple #[.int .u64 0, .int .u64 0]) [] := by
  refine ac_in Try.func120 (fun w0 W pin => ?_)
  refine aw_p 3 (
    .a 2 1 <| .nil _ _) ?_
  refine aw_p 7 (
    .a 3 1 <| .nil _ _) ?_
  refine aw_p 15 (
    .a 3 1 <| .nil _ _) ?_
  refine aw_p 31 (
    .a 3 1 <| .nil _ _) ?_
  refine aw_p 63 (
    .a 3 1 <| .nil _ _) ?_
  refine aw_p 127 (
    .a 4 1 <| .nil _ _) ?_
  refine aw_p 255 (
    .a 7 1 <| .nil _ _) ?_
  refine aw_w [(0, .int .u64 0), (1, .int .u64 2), (4, .int .u64 0), (5, .int .u64 0), (6, .int .u64 0), (7, .int .u64 0), (9, .int .u64 0), (11, .int .u64 0)] [] ?_
  refine aw_p 511 (
    .a 3 1 <| .nil _ _) ?_
  refine aw_p 1023 (
    .a 3 1 <| .nil _ _) ?_
  refine aw_p 2047 (
    .a 6 1 <| .nil _ _) ?_
  refine aw_p 4095 (
    .a 9 1 <| .nil _ _) ?_
  refine aw_p 8191 (
    .a 4 1 <| .nil _ _) ?_
  refine aw_w [(4, .int .u64 0), (5, .int .u64 0)] [] ?_
  refine aw_rt ?_
  exact en_ret [.int .u64 0, .int .u64 0] (by kernel_rfl)
theorem au_segBegun_97  :
    AC Try.prog 92 0 ([.int .i64 0, .int .i64 2]) [] (.agg #[.int .i64 0, .int .u64 0]) [] := by
  refine ac_in Try.func92 (fun w0 W pin => ?_)
  refine aw_p 3 (
    .a 1 1 <| .nil _ _) ?_
  refine aw_p 7 (
    .a 4 2 <| .p (does_c (au_segBegun_96)) <| .a 5 2 <| .nil _ _) ?_
  refine aw_sq 14 15 ?_
  refine aw_p 29 (
    .a 2 2 <| .nil _ _) ?_
  refine aw_fl 59 ?_
  refine aw_sk ?_
  refine then_normal ?_
  refine aw_sq 30 31 ?_
  refine aw_p 61 (
    .a 2 2 <| .nil _ _) ?_
  refine aw_fl 123 ?_
  refine aw_sk ?_
  refine then_normal ?_
  refine aw_p 63 (
    .a 5 2 <| .nil _ _) ?_
  refine aw_rt ?_
  exact en_ret [.agg #[.int .i64 0, .int .u64 0]] (by kernel_rfl)
theorem au_segBegun_98  :
    AC Try.prog 159 0 ([.agg #[.int .i64 0, .int .u64 0], .agg #[.int .i64 0, .int .u64 1]]) [] (.agg #[.int .i64 0, .int .u64 1]) [] := by
  refine ac_in Try.func159 (fun w0 W pin => ?_)
  refine aw_p 3 (
    .a 3 1 <| .nil _ _) ?_
  refine aw_p 7 (
    .a 4 4 <| .p (does_val (v' := .tuple #[.int .u64 1, .int .u64 0]) (does_x (run_add64 Try.func162 (by kernel_rfl) (by kernel_rfl) (by kernel_rfl) (by kernel_rfl) 0 1 0 (by omega) (by omega) (by omega) (by omega))) (by kernel_rfl)) <| .a 5 4 <| .nil _ _) ?_
  refine aw_p 15 (
    .a 7 4 <| .p (does_val (v' := .tuple #[.int .u64 0, .int .u64 0]) (does_x (run_add64 Try.func162 (by kernel_rfl) (by kernel_rfl) (by kernel_rfl) (by kernel_rfl) 0 0 0 (by omega) (by omega) (by omega) (by omega))) (by kernel_rfl)) <| .a 5 4 <| .nil _ _) ?_
  refine aw_w [(4, .pointer (some ⟨3, 0, none⟩)), (5, .int .u64 1), (7, .int .u64 0)] [(3, ⟨[.int .i64 0, .int .u64 0], 90, true, 2⟩)] ?_
  refine aw_p 31 (
    .a 5 4 <| .nil _ _) ?_
  refine aw_rt ?_
  exact en_ret [.agg #[.int .i64 0, .int .u64 1]] (by kernel_rfl)
theorem au_segBegun_99  :
    AC Try.prog 154 0 ([.int .u64 0, .int .u64 1, .int .u64 1]) [] (.tuple #[.int .u64 1, .int .u64 0]) [] := by
  refine ac_in Try.func154 (fun w0 W pin => ?_)
  refine aw_p 3 (
    .a 2 1 <| .nil _ _) ?_
  refine aw_sq 6 7 ?_
  refine aw_p 13 (
    .a 2 1 <| .nil _ _) ?_
  refine aw_fl 27 ?_
  refine aw_sk ?_
  refine then_normal ?_
  refine aw_sq 14 15 ?_
  refine aw_p 29 (
    .a 3 1 <| .nil _ _) ?_
  refine aw_fl 59 ?_
  refine aw_sk ?_
  refine then_normal ?_
  refine aw_sq 30 31 ?_
  refine aw_p 61 (
    .a 2 1 <| .nil _ _) ?_
  refine aw_tr 122 ?_
  refine aw_d 245 (
    .a 8 1 <| .nil _ _) ?_
  refine aw_rt ?_
  refine then_ret ?_
  exact en_ret [.int .u64 1, .int .u64 0] (by kernel_rfl)
theorem au_segBegun_100  :
    AC Try.prog 123 0 ([.agg #[.int .i64 0, .int .u64 1], .int .i64 1]) [] (.tuple #[.agg #[.int .i64 0, .int .u64 1], .int .i64 0, .int .i64 0]) [] := by
  refine ac_in Try.func123 (fun w0 W pin => ?_)
  refine aw_p 3 (
    .a 4 1 <| .nil _ _) ?_
  refine aw_sq 6 7 ?_
  refine aw_p 13 (
    .a 2 3 <| .nil _ _) ?_
  refine aw_fl 27 ?_
  refine aw_sk ?_
  refine then_normal ?_
  refine aw_p 15 (
    .a 4 3 <| .nil _ _) ?_
  refine aw_sq 30 31 ?_
  refine aw_p 61 (
    .a 1 3 <| .nil _ _) ?_
  refine aw_fl 123 ?_
  refine aw_sk ?_
  refine then_normal ?_
  refine aw_d 63 (
    .a 14 3 <| .nil _ _) ?_
  refine aw_w [(1, .int .i64 1), (2, .pointer (some ⟨1, 0, none⟩)), (4, .pointer (some ⟨2, 0, none⟩)), (5, .int .i64 0), (6, .int .i64 0), (7, .bool false), (8, .int .u64 0), (9, .int .u64 0)] [(1, ⟨[.int .i64 0, .int .u64 1], 90, true, 2⟩), (2, ⟨[.int .i64 0, .int .u64 0], 90, true, 2⟩)] ?_
  refine aw_p 127 (
    .a 5 3 <| .p (does_c (au_segBegun_99)) <| .a 5 3 <| .nil _ _) ?_
  refine aw_sq 254 255 ?_
  refine aw_p 509 (
    .a 1 3 <| .nil _ _) ?_
  refine aw_fl 1019 ?_
  refine aw_sk ?_
  refine then_normal ?_
  refine aw_p 511 (
    .a 9 3 <| .nil _ _) ?_
  refine aw_rt ?_
  exact en_ret [.agg #[.int .i64 0, .int .u64 1], .int .i64 0, .int .i64 0] (by kernel_rfl)
theorem au_segBegun_101  :
    AC Try.prog 160 0 ([.agg #[.int .i64 0, .int .u64 1], .int .i64 1]) [] (.tuple #[.agg #[.int .i64 0, .int .u64 1], .int .i64 0, .int .i64 0]) [] := by
  refine ac_in Try.func160 (fun w0 W pin => ?_)
  refine aw_p 3 (
    .a 4 1 <| .nil _ _) ?_
  refine aw_p 7 (
    .a 2 3 <| .p (does_c (au_segBegun_100)) <| .a 6 3 <| .nil _ _) ?_
  refine aw_rt ?_
  exact en_ret [.agg #[.int .i64 0, .int .u64 1], .int .i64 0, .int .i64 0] (by kernel_rfl)
theorem au_segBegun_102  :
    AC Try.prog 93 0 ([.int .i64 1]) [] (.agg #[.int .i64 0, .int .u64 1]) [] := by
  refine ac_in Try.func93 (fun w0 W pin => ?_)
  refine aw_p 3 (
    .a 1 1 <| .nil _ _) ?_
  refine aw_p 7 (
    .a 6 2 <| .nil _ _) ?_
  refine aw_rt ?_
  exact en_ret [.agg #[.int .i64 0, .int .u64 1]] (by kernel_rfl)
theorem au_segBegun_103  :
    AC Try.prog 124 0 ([.agg #[.int .i64 0, .int .u64 1]]) [] (.tuple #[.int .i64 1, .int .i64 0]) [] := by
  refine ac_in Try.func124 (fun w0 W pin => ?_)
  refine aw_p 3 (
    .a 3 1 <| .nil _ _) ?_
  refine aw_sq 6 7 ?_
  refine aw_d 13 (
    .a 4 2 <| .p (does_c (au_segBegun_102)) <| .p (does_e false ((show (!((0 == 0) && ((1 == 1) && true))) = false from by decide))) <| .nil _ _) ?_
  refine aw_fl 27 ?_
  refine aw_sk ?_
  refine then_normal ?_
  refine aw_p 15 (
    .a 5 2 <| .nil _ _) ?_
  refine aw_rt ?_
  exact en_ret [.int .i64 1, .int .i64 0] (by kernel_rfl)
theorem au_segBegun_104  :
    AC Try.prog 120 0 ([.int .u64 1, .int .u64 2]) [] (.tuple #[.int .u64 0, .int .u64 2]) [] := by
  refine ac_in Try.func120 (fun w0 W pin => ?_)
  refine aw_p 3 (
    .a 2 1 <| .nil _ _) ?_
  refine aw_p 7 (
    .a 3 1 <| .nil _ _) ?_
  refine aw_p 15 (
    .a 3 1 <| .nil _ _) ?_
  refine aw_p 31 (
    .a 3 1 <| .nil _ _) ?_
  refine aw_p 63 (
    .a 3 1 <| .nil _ _) ?_
  refine aw_p 127 (
    .a 4 1 <| .nil _ _) ?_
  refine aw_p 255 (
    .a 7 1 <| .nil _ _) ?_
  refine aw_w [(0, .int .u64 1), (1, .int .u64 2), (4, .int .u64 0), (5, .int .u64 0), (6, .int .u64 1), (7, .int .u64 0), (9, .int .u64 0), (11, .int .u64 0)] [] ?_
  refine aw_p 511 (
    .a 3 1 <| .nil _ _) ?_
  refine aw_p 1023 (
    .a 3 1 <| .nil _ _) ?_
  refine aw_p 2047 (
    .a 6 1 <| .nil _ _) ?_
  refine aw_p 4095 (
    .a 9 1 <| .nil _ _) ?_
  refine aw_p 8191 (
    .a 4 1 <| .nil _ _) ?_
  refine aw_w [(4, .int .u64 0), (5, .int .u64 2)] [] ?_
  refine aw_rt ?_
  exact en_ret [.int .u64 0, .int .u64 2] (by kernel_rfl)
theorem au_segBegun_105  :
    AC Try.prog 92 0 ([.int .i64 1, .int .i64 2]) [] (.agg #[.int .i64 0, .int .u64 2]) [] := by
  refine ac_in Try.func92 (fun w0 W pin => ?_)
  refine aw_p 3 (
    .a 1 1 <| .nil _ _) ?_
  refine aw_p 7 (
    .a 4 2 <| .p (does_c (au_segBegun_104)) <| .a 5 2 <| .nil _ _) ?_
  refine aw_sq 14 15 ?_
  refine aw_p 29 (
    .a 2 2 <| .nil _ _) ?_
  refine aw_fl 59 ?_
  refine aw_sk ?_
  refine then_normal ?_
  refine aw_sq 30 31 ?_
  refine aw_p 61 (
    .a 2 2 <| .nil _ _) ?_
  refine aw_fl 123 ?_
  refine aw_sk ?_
  refine then_normal ?_
  refine aw_p 63 (
    .a 5 2 <| .nil _ _) ?_
  refine aw_rt ?_
  exact en_ret [.agg #[.int .i64 0, .int .u64 2]] (by kernel_rfl)
theorem au_segBegun_106  :
    AC Try.prog 93 0 ([.int .i64 2]) [] (.agg #[.int .i64 0, .int .u64 2]) [] := by
  refine ac_in Try.func93 (fun w0 W pin => ?_)
  refine aw_p 3 (
    .a 1 1 <| .nil _ _) ?_
  refine aw_p 7 (
    .a 6 2 <| .nil _ _) ?_
  refine aw_rt ?_
  exact en_ret [.agg #[.int .i64 0, .int .u64 2]] (by kernel_rfl)
theorem au_segBegun_107  :
    AC Try.prog 124 0 ([.agg #[.int .i64 0, .int .u64 2]]) [] (.tuple #[.int .i64 2, .int .i64 0]) [] := by
  refine ac_in Try.func124 (fun w0 W pin => ?_)
  refine aw_p 3 (
    .a 3 1 <| .nil _ _) ?_
  refine aw_sq 6 7 ?_
  refine aw_d 13 (
    .a 4 2 <| .p (does_c (au_segBegun_106)) <| .p (does_e false ((show (!((0 == 0) && ((2 == 2) && true))) = false from by decide))) <| .nil _ _) ?_
  refine aw_fl 27 ?_
  refine aw_sk ?_
  refine then_normal ?_
  refine aw_p 15 (
    .a 5 2 <| .nil _ _) ?_
  refine aw_rt ?_
  exact en_ret [.int .i64 2, .int .i64 0] (by kernel_rfl)
theorem au_segBegun_108  :
    AC Try.prog 126 0 ([.agg #[.int .i64 0, .int .i64 1], .agg #[.int .i64 1, .int .i64 2]]) [] (.tuple #[.agg #[.int .i64 1, .int .i64 2], .int .i64 0]) [] := by
  refine ac_in Try.func126 (fun w0 W pin => ?_)
  refine aw_p 3 (
    .a 4 1 <| .nil _ _) ?_
  refine aw_d 7 (
    .a 1 4 <| .p (does_c (au_segBegun_93)) <| .a 1 4 <| .p (does_c (au_segBegun_95)) <| .a 2 4 <| .nil _ _) ?_
  refine aw_d 15 (
    .a 2 4 <| .p (does_c (au_segBegun_84)) <| .a 2 4 <| .p (does_c (au_segBegun_85)) <| .p (does_c (au_segBegun_86)) <| .a 2 4 <| .nil _ _) ?_
  refine aw_d 31 (
    .a 6 4 <| .p (does_c (au_segBegun_97)) <| .a 6 4 <| .p (does_c (au_segBegun_79)) <| .p (does_c (au_segBegun_98)) <| .a 2 4 <| .nil _ _) ?_
  refine aw_w [(2, .pointer (some ⟨1, 0, none⟩)), (3, .pointer (some ⟨2, 0, none⟩)), (4, .pointer (some ⟨3, 0, none⟩)), (5, .int .i64 0), (6, .int .i64 1), (7, .pointer (some ⟨4, 0, none⟩))] [(1, ⟨[.int .i64 0, .int .i64 1], 59, true, 2⟩), (2, ⟨[.int .i64 1, .int .i64 2], 59, true, 2⟩), (3, ⟨[.int .i64 0, .int .i64 0], 59, true, 2⟩), (4, ⟨[.int .i64 0, .int .u64 1], 90, true, 2⟩)] ?_
  refine aw_p 63 (
    .a 2 5 <| .p (does_c (au_segBegun_100)) <| .a 8 5 <| .nil _ _) ?_
  refine aw_p 127 (
    .a 1 6 <| .p (does_c (au_segBegun_90)) <| .a 1 6 <| .p (does_c (au_segBegun_84)) <| .p (does_c (au_segBegun_91)) <| .a 2 6 <| .nil _ _) ?_
  refine aw_p 255 (
    .a 2 6 <| .p (does_c (au_segBegun_101)) <| .a 8 6 <| .nil _ _) ?_
  refine aw_w [(2, .pointer (some ⟨1, 0, none⟩)), (3, .pointer (some ⟨2, 0, none⟩)), (4, .pointer (some ⟨3, 0, none⟩)), (5, .int .i64 0), (6, .int .i64 1), (9, .int .i64 0), (11, .int .i64 1), (12, .pointer (some ⟨6, 0, none⟩))] [(1, ⟨[.int .i64 0, .int .i64 1], 59, true, 2⟩), (2, ⟨[.int .i64 1, .int .i64 2], 59, true, 2⟩), (3, ⟨[.int .i64 0, .int .i64 0], 59, true, 2⟩), (6, ⟨[.int .i64 0, .int .u64 1], 90, true, 2⟩)] ?_
  refine aw_p 511 (
    .a 1 7 <| .p (does_c (au_segBegun_103)) <| .a 5 7 <| .nil _ _) ?_
  refine aw_d 1023 (
    .a 8 7 <| .p (does_c (au_segBegun_105)) <| .p (does_c (au_segBegun_107)) <| .a 5 7 <| .nil _ _) ?_
  refine aw_sq 2046 2047 ?_
  refine aw_p 4093 (
    .a 14 7 <| .nil _ _) ?_
  refine aw_w [(4, .pointer (some ⟨3, 0, none⟩)), (5, .int .i64 0), (14, .int .i64 1), (16, .int .i64 2), (96, .bool false)] [(3, ⟨[.int .i64 0, .int .i64 0], 59, true, 2⟩)] ?_
  refine aw_fl 8187 ?_
  refine aw_sk ?_
  refine then_normal ?_
  refine aw_p 4095 (
    .a 5 4 <| .nil _ _) ?_
  refine aw_rt ?_
  exact en_ret [.agg #[.int .i64 1, .int .i64 2], .int .i64 0] (by kernel_rfl)
theorem au_segBegun_109  :
    AC Try.prog 99 0 ([.int .i64 0, .int .i64 1, .int .i64 1, .int .i64 2]) [] (.agg #[.int .i64 1, .int .i64 2]) [] := by
  refine ac_in Try.func99 (fun w0 W pin => ?_)
  refine aw_p 3 (
    .a 1 1 <| .nil _ _) ?_
  refine aw_p 7 (
    .a 2 2 <| .p (does_c (au_segBegun_79)) <| .a 1 2 <| .p (does_c (au_segBegun_81)) <| .a 8 2 <| .nil _ _) ?_
  refine aw_p 15 (
    .a 1 3 <| .p (does_c (au_segBegun_83)) <| .a 5 3 <| .nil _ _) ?_
  refine aw_p 31 (
    .a 2 3 <| .p (does_c (au_segBegun_88)) <| .a 6 3 <| .nil _ _) ?_
  refine aw_w [(0, .int .i64 0), (8, .pointer (some ⟨1, 0, none⟩)), (12, .int .i64 0), (14, .pointer (some ⟨3, 0, none⟩))] [(1, ⟨[.int .i64 0, .int .i64 0], 59, true, 2⟩), (3, ⟨[.int .i64 1, .int .i64 2], 59, true, 2⟩)] ?_
  refine aw_d 63 (
    .a 3 4 <| .p (does_c (au_segBegun_89)) <| .a 1 4 <| .p (does_c (au_segBegun_108)) <| .a 6 4 <| .nil _ _) ?_
  refine aw_p 127 (
    .a 2 5 <| .nil _ _) ?_
  refine aw_rt ?_
  exact en_ret [.agg #[.int .i64 1, .int .i64 2]] (by kernel_rfl)
theorem au_segBegun_110  :
    AC Try.prog 54 0 ([.agg #[.int .i64 0, .int .i64 0], .agg #[.int .i64 1, .int .i64 1], .agg #[.int .i64 0, .int .i64 1], .agg #[.int .i64 1, .int .i64 0]]) [] (.tuple #[.agg #[.int .i64 1, .int .i64 2, .int .i64 1, .int .i64 2], .int .i64 0]) [] := by
  refine ac_in Try.func54 (fun w0 W pin => ?_)
  refine aw_p 3 (
    .a 6 1 <| .nil _ _) ?_
  refine aw_d 7 (
    .a 1 6 <| .p (does_c (au_segBegun_5)) <| .a 1 6 <| .p (does_c (au_segBegun_10)) <| .a 1 6 <| .p (does_c (au_segBegun_49)) <| .a 1 6 <| .p (does_c (au_segBegun_50)) <| .a 4 6 <| .nil _ _) ?_
  refine aw_sq 14 15 ?_
  refine aw_p 29 (
    .a 4 6 <| .p (does_c (au_segBegun_68)) <| .nil _ _) ?_
  refine aw_bl 0 59 ?_
  refine aw_p 119 (
    .a 2 6 <| .nil _ _) ?_
  refine aw_w [(4, .pointer (some ⟨1, 0, none⟩)), (5, .pointer (some ⟨2, 0, none⟩)), (6, .pointer (some ⟨3, 0, none⟩)), (7, .pointer (some ⟨4, 0, none⟩)), (8, .pointer (some ⟨5, 0, none⟩)), (9, .int .i64 0), (25, .int .i64 1), (26, .bool false)] [(1, ⟨[.int .i64 0, .int .i64 0], 29, true, 2⟩), (2, ⟨[.int .i64 1, .int .i64 1], 29, true, 2⟩), (3, ⟨[.int .i64 0, .int .i64 1], 29, true, 2⟩), (4, ⟨[.int .i64 1, .int .i64 0], 29, true, 2⟩), (5, ⟨[.int .i64 0, .int .i64 0, .int .i64 0, .int .i64 0], 61, true, 4⟩)] ?_
  refine aw_fl 239 ?_
  refine aw_p 479 (
    .a 2 6 <| .nil _ _) ?_
  refine aw_fl 959 ?_
  refine aw_sk ?_
  refine block_normal ?_
  refine then_normal ?_
  refine aw_sq 30 31 ?_
  refine aw_p 61 (
    .a 4 6 <| .p (does_c (au_segBegun_77)) <| .a 1 6 <| .nil _ _) ?_
  refine aw_p 123 (
    .a 3 6 <| .nil _ _) ?_
  refine aw_fl 247 ?_
  refine aw_sk ?_
  refine then_normal ?_
  refine aw_p 63 (
    .a 3 6 <| .p (does_c (au_segBegun_63)) <| .a 1 6 <| .nil _ _) ?_
  refine aw_p 127 (
    .a 4 6 <| .p (does_c (au_segBegun_66)) <| .a 2 6 <| .nil _ _) ?_
  refine aw_sq 254 255 ?_
  refine aw_p 509 (
    .a 2 6 <| .nil _ _) ?_
  refine aw_w [(4, .pointer (some ⟨1, 0, none⟩)), (5, .pointer (some ⟨2, 0, none⟩)), (8, .pointer (some ⟨5, 0, none⟩)), (9, .int .i64 0), (11, .int .i64 (-1)), (12, .int .i64 (-2)), (55, .bool true)] [(1, ⟨[.int .i64 0, .int .i64 0], 29, true, 2⟩), (2, ⟨[.int .i64 1, .int .i64 1], 29, true, 2⟩), (5, ⟨[.int .i64 0, .int .i64 0, .int .i64 0, .int .i64 0], 61, true, 4⟩)] ?_
  refine aw_tr 1018 ?_
  refine aw_p1 (
    .a 6 6 <| .nil _ _) ?_
  refine then_normal ?_
  refine aw_d 511 (
    .a 9 6 <| .p (does_c (au_segBegun_109)) <| .a 9 6 <| .p (does_c (au_segBegun_109)) <| .a 3 6 <| .nil _ _) ?_
  refine aw_w [(8, .pointer (some ⟨5, 0, none⟩)), (9, .int .i64 0)] [(5, ⟨[.int .i64 1, .int .i64 2, .int .i64 1, .int .i64 2], 61, true, 4⟩)] ?_
  refine aw_rt ?_
  exact en_ret [.agg #[.int .i64 1, .int .i64 2, .int .i64 1, .int .i64 2], .int .i64 0] (by kernel_rfl)
theorem thinBegun_ok  :
    AC Try.prog 12 0 ([]) [] (.bool true) [] := by
  refine ac_in Try.func12 (fun w0 W pin => ?_)
  refine aw_p 3 (
    .a 1 1 <| .nil _ _) ?_
  refine aw_p 7 (
    .p (does_c (au_segBegun_24)) <| .a 1 1 <| .p (does_c (au_segBegun_1)) <| .p (does_c (au_segBegun_25)) <| .p (does_c (au_segBegun_26)) <| .a 1 1 <| .p (does_k [1, 2] (au_segBegun_45)) <| .p (does_c (au_segBegun_1)) <| .p (does_c (au_segBegun_26)) <| .a 1 3 <| .p (does_k [2, 3] (au_segBegun_46)) <|
    .a 2 4 <| .nil _ _) ?_
  refine aw_rt ?_
  exact en_ret [.bool true] (by kernel_rfl)
theorem segBegun_ok  :
    AC Try.prog 13 0 ([]) [] (.bool true) [] := by
  refine ac_in Try.func13 (fun w0 W pin => ?_)
  refine aw_p 3 (
    .a 1 1 <| .nil _ _) ?_
  refine aw_p 7 (
    .p (does_c (au_segBegun_1)) <| .p (does_c (au_segBegun_3)) <| .p (does_c (au_segBegun_47)) <| .p (does_c (au_segBegun_48)) <| .p (does_c (au_segBegun_110)) <| .a 6 1 <| .nil _ _) ?_
  refine aw_p 15 (
    .p (does_c (au_segBegun_24)) <| .a 9 2 <| .p (does_e true ((show (((1 == 1) && ((2 == 2) && true)) && (((1 == 1) && ((2 == 2) && true)) && true)) = true from by decide))) <| .a 2 2 <| .nil _ _) ?_
  refine aw_w [(0, .bool true)] [] ?_
  refine aw_rt ?_
  exact en_ret [.bool true] (by kernel_rfl)
end Go.Proofs.Ytadifmimefmcnaa.Am
