/-
  The walks of the points of an area.
-/
import Derived.Test.YtndkhgfecnbmnaaProg
import Derived.Test.YtndkhgfecnbmnaaAm16
import Derived.Test.YtndkhgfecnbmnaaZ6
namespace Go.Proofs.Ytndkhgfecnbmnaa.Am
open Go Go.Proofs
set_option maxRecDepth 100000
set_option maxHeartbeats 4000000
set_option linter.unusedVariables false
set_option linter.unusedSimpArgs false

theorem concat1_ok (R1 : List (Int × Int)) (zR1 : 1 ≤ R1.length ∧ R1.length ≤ 200) (fR1 : Sp.Few 1000 R1) :
    AC Try.prog 25 2 ([.slice (some ⟨0, 0, none⟩) 1 0]) [(0, ⟨[.slice (some ⟨1, 0, none⟩) R1.length 0], 30, true, 1⟩), (1, ⟨(R1.flatMap ptc), 28, true, 2⟩)] (.slice (some ⟨2, 0, none⟩) R1.length 0) [(0, ⟨[.slice (some ⟨1, 0, none⟩) R1.length 0], 30, true, 1⟩), (1, ⟨(R1.flatMap ptc), 28, true, 2⟩), (2, ⟨(R1.flatMap ptc), 28, true, 2⟩)] := by
  refine ac_in Try.func25 (fun w0 W pin => ?_)
  refine aw_p 3 (
    .a 1 2 <| .nil _ _) ?_
  refine aw_p 7 (
    .a 1 2 <| .nil _ _) ?_
  refine aw_sq 14 15 ?_
  refine aw_p 29 (
    .a 3 2 <| .nil _ _) ?_
  refine aw_bl 0 59 ?_
  refine aw_lp 119 ?_
  refine al_round ?_
  refine aw_p 239 (
    .a 1 2 <| .nil _ _) ?_
  refine aw_sq 478 479 ?_
  refine aw_tr 956 ?_
  refine aw_sk ?_
  refine then_normal ?_
  refine aw_sq 958 959 ?_
  refine aw_bl 1 1917 ?_
  refine aw_p 3835 (
    .a 3 2 <| .nil _ _) ?_
  refine aw_p 7671 (
    .a 3 2 <| .p (does_i (0 + ((R1.length : Nat) : Int)) (wrap_i64 (by omega) (by omega)) .i64) <| .a 1 2 <| .nil _ _) ?_
  refine aw_p 15343 (
    .a 1 2 <| .p (does_b false ((show (decide ((0 + ((R1.length : Nat) : Int)) < 0)) = false from decide_eq_false (by omega)))) <| .nil _ _) ?_
  refine aw_fl 30687 ?_
  refine aw_sk ?_
  refine block_normal ?_
  refine then_normal ?_
  refine aw_p1 (
    .a 2 2 <| .nil _ _) ?_
  refine then_normal ?_
  refine al_round ?_
  refine aw_p 239 (
    .a 1 2 <| .nil _ _) ?_
  refine aw_sq 478 479 ?_
  refine aw_fl 957 ?_
  refine aw_ex 0 ?_
  refine then_exit ?_
  refine then_exit ?_
  refine block_exit ?_
  refine then_normal ?_
  refine aw_p 31 (
    .a 1 2 <|
    .p (does_callB (x := .func 69) (ars := #[.const (.slice none 0 0), .tmp 23]) (ats := #[30, 3]) (g := 69) (vs := [.slice none 0 0, .int .i64 (0 + ((R1.length : Nat) : Int))]) (m := 0) (r := 1) (firsts := #[]) (caps := #[]) (args0 := [.slice none 0 0, .int .i64 (0 + ((R1.length : Nat) : Int))]) (pre0 := []) (post0 := [(0, ⟨[], 28, true, 2⟩)]) (pre := []) (post := [(2, ⟨[], 28, true, 2⟩)]) (v0 := .slice (some ⟨0, 0, none⟩) 0 0) (v := .slice (some ⟨2, 0, none⟩) 0 0) [2] (by kernel_rfl) (by kernel_rfl) (by kernel_rfl) (by kernel_rfl) (grow_ok R1.length (0 + ((R1.length : Nat) : Int)) (by omega) (by omega) (by omega)) (.flats (by kernel_rfl)) trivial (by kernel_rfl) (by kernel_rfl) (by kernel_rfl) ⟨rfl, ⟨rfl, rfl, rfl, (.flats (by kernel_rfl))⟩, trivial⟩ (.slice _ _ _ _ _ (by decide))) <|
    .a 1 3 <| .nil _ _) ?_
  refine aw_sq 62 63 ?_
  refine aw_p 125 (
    .a 3 3 <| .nil _ _) ?_
  refine aw_bl 2 251 ?_
  refine aw_lp 503 ?_
  refine al_round ?_
  refine aw_p 1007 (
    .a 1 3 <| .nil _ _) ?_
  refine aw_sq 2014 2015 ?_
  refine aw_tr 4028 ?_
  refine aw_sk ?_
  refine then_normal ?_
  refine aw_sq 4030 4031 ?_
  refine aw_bl 3 8061 ?_
  refine aw_p 16123 (
    .a 3 3 <| .nil _ _) ?_
  refine aw_p1 (
    .a 2 3 <|
    .p (does_apg R1.length 3 28 2 16 2 0 1 0 R1.length ⟨[], 28, true, 2⟩ ⟨(R1.flatMap ptc), 28, true, 2⟩ (R1.flatMap ptc) (by kernel_rfl) (by kernel_rfl) (by kernel_rfl) (by kernel_rfl) (by kernel_rfl) (plain_pairs _) (by rw [Nat.zero_mul]; exact Nat.zero_le _) (by show _ ≤ (R1.flatMap ptc).length; rw [pairs_length]; omega) (.inl zR1.1) (by omega) (by omega) (by show List.take _ [] ++ ((R1.flatMap ptc).drop _).take _ = _; rw [cut_pairs (j := 0) (k := R1.length) (by omega) (by omega), List.drop_zero, List.take_length, List.take_nil, List.nil_append]) (by omega)) <|
    .a 1 4 <| .nil _ _) ?_
  refine block_normal ?_
  refine then_normal ?_
  refine aw_p1 (
    .a 2 4 <| .nil _ _) ?_
  refine then_normal ?_
  refine al_round ?_
  refine aw_p 1007 (
    .a 1 4 <| .nil _ _) ?_
  refine aw_sq 2014 2015 ?_
  refine aw_fl 4029 ?_
  refine aw_ex 2 ?_
  refine then_exit ?_
  refine then_exit ?_
  refine block_exit ?_
  refine then_normal ?_
  refine aw_p 127 (
    .a 2 4 <| .nil _ _) ?_
  refine aw_r [(2, 3)] [(2, .slice (some ⟨3, 0, none⟩) R1.length 0)] [(0, ⟨[.slice (some ⟨1, 0, none⟩) R1.length 0], 30, true, 1⟩), (1, ⟨(R1.flatMap ptc), 28, true, 2⟩), (3, ⟨(R1.flatMap ptc), 28, true, 2⟩)] [(2, .slice (some ⟨2, 0, none⟩) R1.length 0)] [(0, ⟨[.slice (some ⟨1, 0, none⟩) R1.length 0], 30, true, 1⟩), (1, ⟨(R1.flatMap ptc), 28, true, 2⟩), (2, ⟨(R1.flatMap ptc), 28, true, 2⟩)] ?_ ⟨rfl, (.slice _ _ _ _ _ rfl), trivial⟩ ⟨rfl, ⟨rfl, rfl, rfl, (.cons (.slice _ _ _ _ _ rfl) .nil)⟩, rfl, ⟨rfl, rfl, rfl, (.flats (flats_pair _))⟩, rfl, ⟨rfl, rfl, rfl, (.flats (flats_pair _))⟩, trivial⟩
  refine aw_rt ?_
  exact en_ret [.slice (some ⟨2, 0, none⟩) R1.length 0] (by kernel_rfl)

theorem concat2_ok (R1 R2 : List (Int × Int)) (zR1 : 1 ≤ R1.length ∧ R1.length ≤ 200) (fR1 : Sp.Few 1000 R1) (zR2 : 1 ≤ R2.length ∧ R2.length ≤ 200) (fR2 : Sp.Few 1000 R2) :
    AC Try.prog 25 3 ([.slice (some ⟨0, 0, none⟩) 2 0]) [(0, ⟨[.slice (some ⟨1, 0, none⟩) R1.length 0, .slice (some ⟨2, 0, none⟩) R2.length 0], 30, true, 1⟩), (1, ⟨(R1.flatMap ptc), 28, true, 2⟩), (2, ⟨(R2.flatMap ptc), 28, true, 2⟩)] (.slice (some ⟨3, 0, none⟩) (R1.length + R2.length) 0) [(0, ⟨[.slice (some ⟨1, 0, none⟩) R1.length 0, .slice (some ⟨2, 0, none⟩) R2.length 0], 30, true, 1⟩), (1, ⟨(R1.flatMap ptc), 28, true, 2⟩), (2, ⟨(R2.flatMap ptc), 28, true, 2⟩), (3, ⟨((R1 ++ R2).flatMap ptc), 28, true, 2⟩)] := by
  refine ac_in Try.func25 (fun w0 W pin => ?_)
  refine aw_p 3 (
    .a 1 3 <| .nil _ _) ?_
  refine aw_p 7 (
    .a 1 3 <| .nil _ _) ?_
  refine aw_sq 14 15 ?_
  refine aw_p 29 (
    .a 3 3 <| .nil _ _) ?_
  refine aw_bl 0 59 ?_
  refine aw_lp 119 ?_
  refine al_round ?_
  refine aw_p 239 (
    .a 1 3 <| .nil _ _) ?_
  refine aw_sq 478 479 ?_
  refine aw_tr 956 ?_
  refine aw_sk ?_
  refine then_normal ?_
  refine aw_sq 958 959 ?_
  refine aw_bl 1 1917 ?_
  refine aw_p 3835 (
    .a 3 3 <| .nil _ _) ?_
  refine aw_p 7671 (
    .a 3 3 <| .p (does_i (0 + ((R1.length : Nat) : Int)) (wrap_i64 (by omega) (by omega)) .i64) <| .a 1 3 <| .nil _ _) ?_
  refine aw_p 15343 (
    .a 1 3 <| .p (does_b false ((show (decide ((0 + ((R1.length : Nat) : Int)) < 0)) = false from decide_eq_false (by omega)))) <| .nil _ _) ?_
  refine aw_fl 30687 ?_
  refine aw_sk ?_
  refine block_normal ?_
  refine then_normal ?_
  refine aw_p1 (
    .a 2 3 <| .nil _ _) ?_
  refine then_normal ?_
  refine al_round ?_
  refine aw_p 239 (
    .a 1 3 <| .nil _ _) ?_
  refine aw_sq 478 479 ?_
  refine aw_tr 956 ?_
  refine aw_sk ?_
  refine then_normal ?_
  refine aw_sq 958 959 ?_
  refine aw_bl 1 1917 ?_
  refine aw_p 3835 (
    .a 3 3 <| .nil _ _) ?_
  refine aw_p 7671 (
    .a 3 3 <| .p (does_i ((0 + ((R1.length : Nat) : Int)) + ((R2.length : Nat) : Int)) (wrap_i64 (by omega) (by omega)) .i64) <| .a 1 3 <| .nil _ _) ?_
  refine aw_p 15343 (
    .a 1 3 <| .p (does_b false ((show (decide (((0 + ((R1.length : Nat) : Int)) + ((R2.length : Nat) : Int)) < 0)) = false from decide_eq_false (by omega)))) <| .nil _ _) ?_
  refine aw_fl 30687 ?_
  refine aw_sk ?_
  refine block_normal ?_
  refine then_normal ?_
  refine aw_p1 (
    .a 2 3 <| .nil _ _) ?_
  refine then_normal ?_
  refine al_round ?_
  refine aw_p 239 (
    .a 1 3 <| .nil _ _) ?_
  refine aw_sq 478 479 ?_
  refine aw_fl 957 ?_
  refine aw_ex 0 ?_
  refine then_exit ?_
  refine then_exit ?_
  refine block_exit ?_
  refine then_normal ?_
  refine aw_p 31 (
    .a 1 3 <|
    .p (does_callB (x := .func 69) (ars := #[.const (.slice none 0 0), .tmp 23]) (ats := #[30, 3]) (g := 69) (vs := [.slice none 0 0, .int .i64 ((0 + ((R1.length : Nat) : Int)) + ((R2.length : Nat) : Int))]) (m := 0) (r := 1) (firsts := #[]) (caps := #[]) (args0 := [.slice none 0 0, .int .i64 ((0 + ((R1.length : Nat) : Int)) + ((R2.length : Nat) : Int))]) (pre0 := []) (post0 := [(0, ⟨[], 28, true, 2⟩)]) (pre := []) (post := [(3, ⟨[], 28, true, 2⟩)]) (v0 := .slice (some ⟨0, 0, none⟩) 0 0) (v := .slice (some ⟨3, 0, none⟩) 0 0) [3] (by kernel_rfl) (by kernel_rfl) (by kernel_rfl) (by kernel_rfl) (grow_ok (R1.length + R2.length) ((0 + ((R1.length : Nat) : Int)) + ((R2.length : Nat) : Int)) (by omega) (by omega) (by omega)) (.flats (by kernel_rfl)) trivial (by kernel_rfl) (by kernel_rfl) (by kernel_rfl) ⟨rfl, ⟨rfl, rfl, rfl, (.flats (by kernel_rfl))⟩, trivial⟩ (.slice _ _ _ _ _ (by decide))) <|
    .a 1 4 <| .nil _ _) ?_
  refine aw_sq 62 63 ?_
  refine aw_p 125 (
    .a 3 4 <| .nil _ _) ?_
  refine aw_bl 2 251 ?_
  refine aw_lp 503 ?_
  refine al_round ?_
  refine aw_p 1007 (
    .a 1 4 <| .nil _ _) ?_
  refine aw_sq 2014 2015 ?_
  refine aw_tr 4028 ?_
  refine aw_sk ?_
  refine then_normal ?_
  refine aw_sq 4030 4031 ?_
  refine aw_bl 3 8061 ?_
  refine aw_p 16123 (
    .a 3 4 <| .nil _ _) ?_
  refine aw_p1 (
    .a 2 4 <|
    .p (does_apg R1.length 4 28 2 16 3 0 1 0 R1.length ⟨[], 28, true, 2⟩ ⟨(R1.flatMap ptc), 28, true, 2⟩ (R1.flatMap ptc) (by kernel_rfl) (by kernel_rfl) (by kernel_rfl) (by kernel_rfl) (by kernel_rfl) (plain_pairs _) (by rw [Nat.zero_mul]; exact Nat.zero_le _) (by show _ ≤ (R1.flatMap ptc).length; rw [pairs_length]; omega) (.inl zR1.1) (by omega) (by omega) (by show List.take _ [] ++ ((R1.flatMap ptc).drop _).take _ = _; rw [cut_pairs (j := 0) (k := R1.length) (by omega) (by omega), List.drop_zero, List.take_length, List.take_nil, List.nil_append]) (by omega)) <|
    .a 1 5 <| .nil _ _) ?_
  refine block_normal ?_
  refine then_normal ?_
  refine aw_p1 (
    .a 2 5 <| .nil _ _) ?_
  refine then_normal ?_
  refine al_round ?_
  refine aw_p 1007 (
    .a 1 5 <| .nil _ _) ?_
  refine aw_sq 2014 2015 ?_
  refine aw_tr 4028 ?_
  refine aw_sk ?_
  refine then_normal ?_
  refine aw_sq 4030 4031 ?_
  refine aw_bl 3 8061 ?_
  refine aw_p 16123 (
    .a 3 5 <| .nil _ _) ?_
  refine aw_p1 (
    .a 2 5 <|
    .p (does_apg (R1.length + R2.length) 5 28 2 16 4 R1.length 2 0 R2.length ⟨(R1.flatMap ptc), 28, true, 2⟩ ⟨(R2.flatMap ptc), 28, true, 2⟩ ((R1 ++ R2).flatMap ptc) (by kernel_rfl) (by kernel_rfl) (by kernel_rfl) (by kernel_rfl) (by kernel_rfl) (plain_pairs _) (by show _ ≤ (R1.flatMap ptc).length; rw [pairs_length]; (try simp only [List.length_append]); omega) (by show _ ≤ (R2.flatMap ptc).length; rw [pairs_length]; omega) (.inl zR2.1) (by omega) (by omega) (by show (R1.flatMap ptc).take _ ++ ((R2.flatMap ptc).drop _).take _ = _; rw [cut_pairs (j := 0) (k := R2.length) (by omega) (by omega), List.drop_zero, List.take_length, List.take_of_length_le (by rw [pairs_length]; (try simp only [List.length_append]); omega), ← List.flatMap_append]) (by omega)) <|
    .a 1 6 <| .nil _ _) ?_
  refine block_normal ?_
  refine then_normal ?_
  refine aw_p1 (
    .a 2 6 <| .nil _ _) ?_
  refine then_normal ?_
  refine al_round ?_
  refine aw_p 1007 (
    .a 1 6 <| .nil _ _) ?_
  refine aw_sq 2014 2015 ?_
  refine aw_fl 4029 ?_
  refine aw_ex 2 ?_
  refine then_exit ?_
  refine then_exit ?_
  refine block_exit ?_
  refine then_normal ?_
  refine aw_p 127 (
    .a 2 6 <| .nil _ _) ?_
  refine aw_r [(3, 5)] [(2, .slice (some ⟨5, 0, none⟩) (R1.length + R2.length) 0)] [(0, ⟨[.slice (some ⟨1, 0, none⟩) R1.length 0, .slice (some ⟨2, 0, none⟩) R2.length 0], 30, true, 1⟩), (1, ⟨(R1.flatMap ptc), 28, true, 2⟩), (2, ⟨(R2.flatMap ptc), 28, true, 2⟩), (5, ⟨((R1 ++ R2).flatMap ptc), 28, true, 2⟩)] [(2, .slice (some ⟨3, 0, none⟩) (R1.length + R2.length) 0)] [(0, ⟨[.slice (some ⟨1, 0, none⟩) R1.length 0, .slice (some ⟨2, 0, none⟩) R2.length 0], 30, true, 1⟩), (1, ⟨(R1.flatMap ptc), 28, true, 2⟩), (2, ⟨(R2.flatMap ptc), 28, true, 2⟩), (3, ⟨((R1 ++ R2).flatMap ptc), 28, true, 2⟩)] ?_ ⟨rfl, (.slice _ _ _ _ _ rfl), trivial⟩ ⟨rfl, ⟨rfl, rfl, rfl, (.cons (.slice _ _ _ _ _ rfl) (.cons (.slice _ _ _ _ _ rfl) .nil))⟩, rfl, ⟨rfl, rfl, rfl, (.flats (flats_pair _))⟩, rfl, ⟨rfl, rfl, rfl, (.flats (flats_pair _))⟩, rfl, ⟨rfl, rfl, rfl, (.flats (flats_pair _))⟩, trivial⟩
  refine aw_rt ?_
  exact en_ret [.slice (some ⟨3, 0, none⟩) (R1.length + R2.length) 0] (by kernel_rfl)

theorem concat3_ok (R1 R2 R3 : List (Int × Int)) (zR1 : 1 ≤ R1.length ∧ R1.length ≤ 200) (fR1 : Sp.Few 1000 R1) (zR2 : 1 ≤ R2.length ∧ R2.length ≤ 200) (fR2 : Sp.Few 1000 R2) (zR3 : 1 ≤ R3.length ∧ R3.length ≤ 200) (fR3 : Sp.Few 1000 R3) :
    AC Try.prog 25 4 ([.slice (some ⟨0, 0, none⟩) 3 0]) [(0, ⟨[.slice (some ⟨1, 0, none⟩) R1.length 0, .slice (some ⟨2, 0, none⟩) R2.length 0, .slice (some ⟨3, 0, none⟩) R3.length 0], 30, true, 1⟩), (1, ⟨(R1.flatMap ptc), 28, true, 2⟩), (2, ⟨(R2.flatMap ptc), 28, true, 2⟩), (3, ⟨(R3.flatMap ptc), 28, true, 2⟩)] (.slice (some ⟨4, 0, none⟩) (R1.length + R2.length + R3.length) 0) [(0, ⟨[.slice (some ⟨1, 0, none⟩) R1.length 0, .slice (some ⟨2, 0, none⟩) R2.length 0, .slice (some ⟨3, 0, none⟩) R3.length 0], 30, true, 1⟩), (1, ⟨(R1.flatMap ptc), 28, true, 2⟩), (2, ⟨(R2.flatMap ptc), 28, true, 2⟩), (3, ⟨(R3.flatMap ptc), 28, true, 2⟩), (4, ⟨(((R1 ++ R2) ++ R3).flatMap ptc), 28, true, 2⟩)] := by
  refine ac_in Try.func25 (fun w0 W pin => ?_)
  refine aw_p 3 (
    .a 1 4 <| .nil _ _) ?_
  refine aw_p 7 (
    .a 1 4 <| .nil _ _) ?_
  refine aw_sq 14 15 ?_
  refine aw_p 29 (
    .a 3 4 <| .nil _ _) ?_
  refine aw_bl 0 59 ?_
  refine aw_lp 119 ?_
  refine al_round ?_
  refine aw_p 239 (
    .a 1 4 <| .nil _ _) ?_
  refine aw_sq 478 479 ?_
  refine aw_tr 956 ?_
  refine aw_sk ?_
  refine then_normal ?_
  refine aw_sq 958 959 ?_
  refine aw_bl 1 1917 ?_
  refine aw_p 3835 (
    .a 3 4 <| .nil _ _) ?_
  refine aw_p 7671 (
    .a 3 4 <| .p (does_i (0 + ((R1.length : Nat) : Int)) (wrap_i64 (by omega) (by omega)) .i64) <| .a 1 4 <| .nil _ _) ?_
  refine aw_p 15343 (
    .a 1 4 <| .p (does_b false ((show (decide ((0 + ((R1.length : Nat) : Int)) < 0)) = false from decide_eq_false (by omega)))) <| .nil _ _) ?_
  refine aw_fl 30687 ?_
  refine aw_sk ?_
  refine block_normal ?_
  refine then_normal ?_
  refine aw_p1 (
    .a 2 4 <| .nil _ _) ?_
  refine then_normal ?_
  refine al_round ?_
  refine aw_p 239 (
    .a 1 4 <| .nil _ _) ?_
  refine aw_sq 478 479 ?_
  refine aw_tr 956 ?_
  refine aw_sk ?_
  refine then_normal ?_
  refine aw_sq 958 959 ?_
  refine aw_bl 1 1917 ?_
  refine aw_p 3835 (
    .a 3 4 <| .nil _ _) ?_
  refine aw_p 7671 (
    .a 3 4 <| .p (does_i ((0 + ((R1.length : Nat) : Int)) + ((R2.length : Nat) : Int)) (wrap_i64 (by omega) (by omega)) .i64) <| .a 1 4 <| .nil _ _) ?_
  refine aw_p 15343 (
    .a 1 4 <| .p (does_b false ((show (decide (((0 + ((R1.length : Nat) : Int)) + ((R2.length : Nat) : Int)) < 0)) = false from decide_eq_false (by omega)))) <| .nil _ _) ?_
  refine aw_fl 30687 ?_
  refine aw_sk ?_
  refine block_normal ?_
  refine then_normal ?_
  refine aw_p1 (
    .a 2 4 <| .nil _ _) ?_
  refine then_normal ?_
  refine al_round ?_
  refine aw_p 239 (
    .a 1 4 <| .nil _ _) ?_
  refine aw_sq 478 479 ?_
  refine aw_tr 956 ?_
  refine aw_sk ?_
  refine then_normal ?_
  refine aw_sq 958 959 ?_
  refine aw_bl 1 1917 ?_
  refine aw_p 3835 (
    .a 3 4 <| .nil _ _) ?_
  refine aw_p 7671 (
    .a 3 4 <| .p (does_i (((0 + ((R1.length : Nat) : Int)) + ((R2.length : Nat) : Int)) + ((R3.length : Nat) : Int)) (wrap_i64 (by omega) (by omega)) .i64) <| .a 1 4 <| .nil _ _) ?_
  refine aw_p 15343 (
    .a 1 4 <| .p (does_b false ((show (decide ((((0 + ((R1.length : Nat) : Int)) + ((R2.length : Nat) : Int)) + ((R3.length : Nat) : Int)) < 0)) = false from decide_eq_false (by omega)))) <| .nil _ _) ?_
  refine aw_fl 30687 ?_
  refine aw_sk ?_
  refine block_normal ?_
  refine then_normal ?_
  refine aw_p1 (
    .a 2 4 <| .nil _ _) ?_
  refine then_normal ?_
  refine al_round ?_
  refine aw_p 239 (
    .a 1 4 <| .nil _ _) ?_
  refine aw_sq 478 479 ?_
  refine aw_fl 957 ?_
  refine aw_ex 0 ?_
  refine then_exit ?_
  refine then_exit ?_
  refine block_exit ?_
  refine then_normal ?_
  refine aw_p 31 (
    .a 1 4 <|
    .p (does_callB (x := .func 69) (ars := #[.const (.slice none 0 0), .tmp 23]) (ats := #[30, 3]) (g := 69) (vs := [.slice none 0 0, .int .i64 (((0 + ((R1.length : Nat) : Int)) + ((R2.length : Nat) : Int)) + ((R3.length : Nat) : Int))]) (m := 0) (r := 1) (firsts := #[]) (caps := #[]) (args0 := [.slice none 0 0, .int .i64 (((0 + ((R1.length : Nat) : Int)) + ((R2.length : Nat) : Int)) + ((R3.length : Nat) : Int))]) (pre0 := []) (post0 := [(0, ⟨[], 28, true, 2⟩)]) (pre := []) (post := [(4, ⟨[], 28, true, 2⟩)]) (v0 := .slice (some ⟨0, 0, none⟩) 0 0) (v := .slice (some ⟨4, 0, none⟩) 0 0) [4] (by kernel_rfl) (by kernel_rfl) (by kernel_rfl) (by kernel_rfl) (grow_ok (R1.length + R2.length + R3.length) (((0 + ((R1.length : Nat) : Int)) + ((R2.length : Nat) : Int)) + ((R3.length : Nat) : Int)) (by omega) (by omega) (by omega)) (.flats (by kernel_rfl)) trivial (by kernel_rfl) (by kernel_rfl) (by kernel_rfl) ⟨rfl, ⟨rfl, rfl, rfl, (.flats (by kernel_rfl))⟩, trivial⟩ (.slice _ _ _ _ _ (by decide))) <|
    .a 1 5 <| .nil _ _) ?_
  refine aw_sq 62 63 ?_
  refine aw_p 125 (
    .a 3 5 <| .nil _ _) ?_
  refine aw_bl 2 251 ?_
  refine aw_lp 503 ?_
  refine al_round ?_
  refine aw_p 1007 (
    .a 1 5 <| .nil _ _) ?_
  refine aw_sq 2014 2015 ?_
  refine aw_tr 4028 ?_
  refine aw_sk ?_
  refine then_normal ?_
  refine aw_sq 4030 4031 ?_
  refine aw_bl 3 8061 ?_
  refine aw_p 16123 (
    .a 3 5 <| .nil _ _) ?_
  refine aw_p1 (
    .a 2 5 <|
    .p (does_apg R1.length 5 28 2 16 4 0 1 0 R1.length ⟨[], 28, true, 2⟩ ⟨(R1.flatMap ptc), 28, true, 2⟩ (R1.flatMap ptc) (by kernel_rfl) (by kernel_rfl) (by kernel_rfl) (by kernel_rfl) (by kernel_rfl) (plain_pairs _) (by rw [Nat.zero_mul]; exact Nat.zero_le _) (by show _ ≤ (R1.flatMap ptc).length; rw [pairs_length]; omega) (.inl zR1.1) (by omega) (by omega) (by show List.take _ [] ++ ((R1.flatMap ptc).drop _).take _ = _; rw [cut_pairs (j := 0) (k := R1.length) (by omega) (by omega), List.drop_zero, List.take_length, List.take_nil, List.nil_append]) (by omega)) <|
    .a 1 6 <| .nil _ _) ?_
  refine block_normal ?_
  refine then_normal ?_
  refine aw_p1 (
    .a 2 6 <| .nil _ _) ?_
  refine then_normal ?_
  refine al_round ?_
  refine aw_p 1007 (
    .a 1 6 <| .nil _ _) ?_
  refine aw_sq 2014 2015 ?_
  refine aw_tr 4028 ?_
  refine aw_sk ?_
  refine then_normal ?_
  refine aw_sq 4030 4031 ?_
  refine aw_bl 3 8061 ?_
  refine aw_p 16123 (
    .a 3 6 <| .nil _ _) ?_
  refine aw_p1 (
    .a 2 6 <|
    .p (does_apg (R1.length + R2.length) 6 28 2 16 5 R1.length 2 0 R2.length ⟨(R1.flatMap ptc), 28, true, 2⟩ ⟨(R2.flatMap ptc), 28, true, 2⟩ ((R1 ++ R2).flatMap ptc) (by kernel_rfl) (by kernel_rfl) (by kernel_rfl) (by kernel_rfl) (by kernel_rfl) (plain_pairs _) (by show _ ≤ (R1.flatMap ptc).length; rw [pairs_length]; (try simp only [List.length_append]); omega) (by show _ ≤ (R2.flatMap ptc).length; rw [pairs_length]; omega) (.inl zR2.1) (by omega) (by omega) (by show (R1.flatMap ptc).take _ ++ ((R2.flatMap ptc).drop _).take _ = _; rw [cut_pairs (j := 0) (k := R2.length) (by omega) (by omega), List.drop_zero, List.take_length, List.take_of_length_le (by rw [pairs_length]; (try simp only [List.length_append]); omega), ← List.flatMap_append]) (by omega)) <|
    .a 1 7 <| .nil _ _) ?_
  refine block_normal ?_
  refine then_normal ?_
  refine aw_p1 (
    .a 2 7 <| .nil _ _) ?_
  refine then_normal ?_
  refine al_round ?_
  refine aw_p 1007 (
    .a 1 7 <| .nil _ _) ?_
  refine aw_sq 2014 2015 ?_
  refine aw_tr 4028 ?_
  refine aw_sk ?_
  refine then_normal ?_
  refine aw_sq 4030 4031 ?_
  refine aw_bl 3 8061 ?_
  refine aw_p 16123 (
    .a 3 7 <| .nil _ _) ?_
  refine aw_p1 (
    .a 2 7 <|
    .p (does_apg (R1.length + R2.length + R3.length) 7 28 2 16 6 (R1.length + R2.length) 3 0 R3.length ⟨((R1 ++ R2).flatMap ptc), 28, true, 2⟩ ⟨(R3.flatMap ptc), 28, true, 2⟩ (((R1 ++ R2) ++ R3).flatMap ptc) (by kernel_rfl) (by kernel_rfl) (by kernel_rfl) (by kernel_rfl) (by kernel_rfl) (plain_pairs _) (by show _ ≤ ((R1 ++ R2).flatMap ptc).length; rw [pairs_length]; (try simp only [List.length_append]); omega) (by show _ ≤ (R3.flatMap ptc).length; rw [pairs_length]; omega) (.inl zR3.1) (by omega) (by omega) (by show ((R1 ++ R2).flatMap ptc).take _ ++ ((R3.flatMap ptc).drop _).take _ = _; rw [cut_pairs (j := 0) (k := R3.length) (by omega) (by omega), List.drop_zero, List.take_length, List.take_of_length_le (by rw [pairs_length]; (try simp only [List.length_append]); omega), ← List.flatMap_append]) (by omega)) <|
    .a 1 8 <| .nil _ _) ?_
  refine block_normal ?_
  refine then_normal ?_
  refine aw_p1 (
    .a 2 8 <| .nil _ _) ?_
  refine then_normal ?_
  refine al_round ?_
  refine aw_p 1007 (
    .a 1 8 <| .nil _ _) ?_
  refine aw_sq 2014 2015 ?_
  refine aw_fl 4029 ?_
  refine aw_ex 2 ?_
  refine then_exit ?_
  refine then_exit ?_
  refine block_exit ?_
  refine then_normal ?_
  refine aw_p 127 (
    .a 2 8 <| .nil _ _) ?_
  refine aw_r [(4, 7)] [(2, .slice (some ⟨7, 0, none⟩) (R1.length + R2.length + R3.length) 0)] [(0, ⟨[.slice (some ⟨1, 0, none⟩) R1.length 0, .slice (some ⟨2, 0, none⟩) R2.length 0, .slice (some ⟨3, 0, none⟩) R3.length 0], 30, true, 1⟩), (1, ⟨(R1.flatMap ptc), 28, true, 2⟩), (2, ⟨(R2.flatMap ptc), 28, true, 2⟩), (3, ⟨(R3.flatMap ptc), 28, true, 2⟩), (7, ⟨(((R1 ++ R2) ++ R3).flatMap ptc), 28, true, 2⟩)] [(2, .slice (some ⟨4, 0, none⟩) (R1.length + R2.length + R3.length) 0)] [(0, ⟨[.slice (some ⟨1, 0, none⟩) R1.length 0, .slice (some ⟨2, 0, none⟩) R2.length 0, .slice (some ⟨3, 0, none⟩) R3.length 0], 30, true, 1⟩), (1, ⟨(R1.flatMap ptc), 28, true, 2⟩), (2, ⟨(R2.flatMap ptc), 28, true, 2⟩), (3, ⟨(R3.flatMap ptc), 28, true, 2⟩), (4, ⟨(((R1 ++ R2) ++ R3).flatMap ptc), 28, true, 2⟩)] ?_ ⟨rfl, (.slice _ _ _ _ _ rfl), trivial⟩ ⟨rfl, ⟨rfl, rfl, rfl, (.cons (.slice _ _ _ _ _ rfl) (.cons (.slice _ _ _ _ _ rfl) (.cons (.slice _ _ _ _ _ rfl) .nil)))⟩, rfl, ⟨rfl, rfl, rfl, (.flats (flats_pair _))⟩, rfl, ⟨rfl, rfl, rfl, (.flats (flats_pair _))⟩, rfl, ⟨rfl, rfl, rfl, (.flats (flats_pair _))⟩, rfl, ⟨rfl, rfl, rfl, (.flats (flats_pair _))⟩, trivial⟩
  refine aw_rt ?_
  exact en_ret [.slice (some ⟨4, 0, none⟩) (R1.length + R2.length + R3.length) 0] (by kernel_rfl)


end Go.Proofs.Ytndkhgfecnbmnaa.Am
