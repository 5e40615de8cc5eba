/-
  The walk of the law RingPick.
-/
import Derived.Test.YtomnkdlfmjdckaaProg
import Derived.Test.YtomnkdlfmjdckaaAm16
import Derived.Test.YtomnkdlfmjdckaaRm2
import Derived.Test.YtomnkdlfmjdckaaBo
import Derived.Test.YtomnkdlfmjdckaaRh
import Derived.Test.YtomnkdlfmjdckaaRb
import Derived.Test.YtomnkdlfmjdckaaPi9
namespace Go.Proofs.Ytomnkdlfmjdckaa.Am
open Go Go.Proofs
set_option maxRecDepth 100000
set_option maxHeartbeats 4000000
set_option linter.unusedVariables false
set_option linter.unusedSimpArgs false

theorem ringPick_walk (xs : List Int) (ps : List (Int × Int)) (hl : 3 ≤ ps.length ∧ ps.length ≤ 8) (hf : Sp.Few 40 ps) (hm0 : AC Try.prog 6 1 [.slice (some ⟨0, 0, none⟩) xs.length 0] [(0, ⟨(xs.map i64v), 3, false, 1⟩)] (.slice (some ⟨1, 0, none⟩) ps.length 0) [(1, ⟨(ps.flatMap ptc), 27, true, 2⟩)]) (a b : Int) (M : Nat) (hab : (-40 ≤ a ∧ a ≤ 40) ∧ (-40 ≤ b ∧ b ≤ 40)) (hM : 1 ≤ M ∧ M ≤ 39) (hbx : Sp.bxo ps ps.length = (a, b, a + (M : Int) - 1, b + (M : Int) - 1)) (hpk : Sp.areaN ps = 2 * Sp.cnI ps a b M 1 M 0 + Sp.cnI ps a b M 0 M 0 - 2) :
    AC Try.prog 4 1 ([.slice (some ⟨0, 0, none⟩) xs.length 0]) [(0, ⟨(xs.map i64v), 3, false, 1⟩)] (.bool true) [] := by
  have t1 := (Sp.twF_area hf hl.2).1; have hlz : ps.length ≤ 9223372036854775807 := (by omega)
  refine ac_in Try.func4 (fun w0 W pin => ?_)
  refine aw_p 3 (
    .a 1 1 <| .nil _ _) ?_
  refine aw_sq 6 7 ?_
  refine aw_p 13 (
    .p (does_c (terrkeep1_ringBegun_ok)) <| .a 1 1 <| .nil _ _) ?_
  refine aw_fl 27 ?_
  refine aw_sk ?_
  refine then_normal ?_
  refine aw_p 15 (
    .a 1 1 <|
    .p (does_callB (x := .func 6) (ars := #[.tmp 11]) (ats := #[22]) (g := 6) (vs := [.slice (some ⟨0, 0, none⟩) xs.length 0]) (m := 1) (r := 1) (firsts := #[]) (caps := #[]) (args0 := [.slice (some ⟨0, 0, none⟩) xs.length 0]) (pre0 := [(0, ⟨(xs.map i64v), 3, false, 1⟩)]) (post0 := [(1, ⟨(ps.flatMap ptc), 27, true, 2⟩)]) (pre := [(0, ⟨(xs.map i64v), 3, false, 1⟩)]) (post := [(1, ⟨(ps.flatMap ptc), 27, true, 2⟩)]) (v0 := .slice (some ⟨1, 0, none⟩) ps.length 0) (v := .slice (some ⟨1, 0, none⟩) ps.length 0) [0, 1] (by kernel_rfl) (by kernel_rfl) (by kernel_rfl) (by kernel_rfl) (hm0) (.cons (.slice _ _ _ _ _ (by decide)) .nil) ⟨rfl, ⟨rfl, rfl, rfl, (.flats (flats_map (fun _ => rfl) _))⟩, trivial⟩ (by kernel_rfl) (by kernel_rfl) (by kernel_rfl) ⟨rfl, ⟨rfl, rfl, rfl, (.flats (flats_pair _))⟩, trivial⟩ (.slice _ _ _ _ _ (by decide))) <|
    .a 1 2 <| .nil _ _) ?_
  refine aw_p 31 (
    .a 2 2 <| .nil _ _) ?_
  refine aw_p 63 (
    .a 1 2 <|
    .p (does_callB (x := .func 17) (ars := #[.tmp 13]) (ats := #[24]) (g := 17) (vs := [.slice (some ⟨1, 0, none⟩) ps.length 0]) (m := 1) (r := 0) (firsts := #[]) (caps := #[]) (args0 := [.slice (some ⟨0, 0, none⟩) ps.length 0]) (pre0 := [(0, ⟨(ps.flatMap ptc), 27, true, 2⟩)]) (post0 := [(0, ⟨(ps.flatMap ptc), 27, true, 2⟩)]) (pre := [(1, ⟨(ps.flatMap ptc), 27, true, 2⟩)]) (post := [(1, ⟨(ps.flatMap ptc), 27, true, 2⟩)]) (v0 := .agg #[.int .i64 a, .int .i64 b, .int .i64 (a + (M : Int) - 1), .int .i64 (b + (M : Int) - 1)]) (v := .agg #[.int .i64 a, .int .i64 b, .int .i64 (a + (M : Int) - 1), .int .i64 (b + (M : Int) - 1)]) [1] (by kernel_rfl) (by kernel_rfl) (by kernel_rfl) (by kernel_rfl) ((by have q := boxof_own ps hlz; rw [hbx] at q; exact q)) (.cons (.slice _ _ _ _ _ (by decide)) .nil) ⟨rfl, ⟨rfl, rfl, rfl, (.flats (flats_pair _))⟩, trivial⟩ (by kernel_rfl) (by kernel_rfl) (by kernel_rfl) ⟨rfl, ⟨rfl, rfl, rfl, (.flats (flats_pair _))⟩, trivial⟩ (.flatB (by kernel_rfl))) <|
    .a 2 2 <| .nil _ _) ?_
  refine aw_sq 126 127 ?_
  refine aw_p 253 (
    .a 4 3 <| .nil _ _) ?_
  refine aw_bl 0 507 ?_
  refine aw_lp 1015 ?_
  refine al_w [(3, .slice (some ⟨1, 0, none⟩) ps.length 0), (4, .int .i64 0), (5, .int .i64 0), (6, .pointer (some ⟨2, 0, none⟩)), (7, .int .i64 a)] [(0, ⟨(xs.map i64v), 3, false, 1⟩), (1, ⟨(ps.flatMap ptc), 27, true, 2⟩), (2, ⟨[.int .i64 a, .int .i64 b, .int .i64 (a + (M : Int) - 1), .int .i64 (b + (M : Int) - 1)], 41, true, 4⟩)] ?_ (hc := (by simp [closedB, valsB, valB, List.all_eq_true, List.mem_flatMap, List.mem_range, List.mem_map, i64v, ptc, i64v, flat1]; try (intros; simp [valsB, valB, flat1]); try decide))
  refine al_ind (fun i : Nat × Int × Int × Int => (fun (c : Nat) (x : Int) (p : Int) (q : Int) => mkSt 1 [(3, .slice (some ⟨1, 0, none⟩) ps.length 0), (4, .int .i64 p), (5, .int .i64 q), (6, .pointer (some ⟨2, 0, none⟩)), (7, .int .i64 x)] [(0, ⟨(xs.map i64v), 3, false, 1⟩), (1, ⟨(ps.flatMap ptc), 27, true, 2⟩), (2, ⟨[.int .i64 a, .int .i64 b, .int .i64 (a + (M : Int) - 1), .int .i64 (b + (M : Int) - 1)], 41, true, 4⟩)]) i.1 i.2.1 i.2.2.1 i.2.2.2) (fun i : Nat × Int × Int × Int => (fun (c : Nat) (x : Int) (p : Int) (q : Int) => (c ≤ M) ∧ (x = a + ((c : Nat) : Int)) ∧ (p = Sp.cnI ps a b M 1 c 0) ∧ (q = Sp.cnI ps a b M 0 c 0)) i.1 i.2.1 i.2.2.1 i.2.2.2) (fun i : Nat × Int × Int × Int => (fun (c : Nat) (x : Int) (p : Int) (q : Int) => M - c) i.1 i.2.1 i.2.2.1 i.2.2.2) (fun i hi1 ih1 => ?_) (0, a, 0, 0) (show (0 ≤ M) ∧ (a = a + ((0 : Nat) : Int)) ∧ (0 = Sp.cnI ps a b M 1 0 0) ∧ (0 = Sp.cnI ps a b M 0 0 0) from ⟨by omega, by omega, by rfl, by rfl⟩)
  obtain ⟨c, x, p, q⟩ := i
  have hi1' : (c ≤ M) ∧ (x = a + ((c : Nat) : Int)) ∧ (p = Sp.cnI ps a b M 1 c 0) ∧ (q = Sp.cnI ps a b M 0 c 0) := hi1
  obtain ⟨hi, hx, hp, hq⟩ := hi1'
  show AL _ _ _ (mkSt 1 [(3, .slice (some ⟨1, 0, none⟩) ps.length 0), (4, .int .i64 p), (5, .int .i64 q), (6, .pointer (some ⟨2, 0, none⟩)), (7, .int .i64 x)] [(0, ⟨(xs.map i64v), 3, false, 1⟩), (1, ⟨(ps.flatMap ptc), 27, true, 2⟩), (2, ⟨[.int .i64 a, .int .i64 b, .int .i64 (a + (M : Int) - 1), .int .i64 (b + (M : Int) - 1)], 41, true, 4⟩)]) _
  have e1 := Sp.cnI_bd (ps := ps) (a := a) (b := b) (v := 1) (i := c) (j := 0) hM.2 (by omega) (by omega)
  have e0 := Sp.cnI_bd (ps := ps) (a := a) (b := b) (v := 0) (i := c) (j := 0) hM.2 (by omega) (by omega)
  refine al_round ?_
  refine aw_sq 2030 2031 ?_
  refine aw_p 4061 (
    .a 5 3 <| .nil _ _) ?_
  refine aw_cd 8122 8123 (decide (x ≤ (a + (M : Int) - 1))) (fun h1 => ?_) (fun h1 => ?_)
  · have h1p : ((x ≤ (a + (M : Int) - 1))) := by first | (simpa using h1) | (have h1q := h1; simp at h1q; omega) | (have h1q := bx1 h1; simp at h1q; omega)
    refine aw_sk ?_
    refine then_normal ?_
    refine aw_sq 4062 4063 ?_
    refine aw_bl 1 8125 ?_
    refine aw_p 16251 (
      .a 4 3 <| .nil _ _) ?_
    refine aw_bl 2 32503 ?_
    refine aw_lp 65007 ?_
    refine al_w [(3, .slice (some ⟨1, 0, none⟩) ps.length 0), (4, .int .i64 p), (5, .int .i64 q), (6, .pointer (some ⟨2, 0, none⟩)), (7, .int .i64 x), (8, .int .i64 b)] [(0, ⟨(xs.map i64v), 3, false, 1⟩), (1, ⟨(ps.flatMap ptc), 27, true, 2⟩), (2, ⟨[.int .i64 a, .int .i64 b, .int .i64 (a + (M : Int) - 1), .int .i64 (b + (M : Int) - 1)], 41, true, 4⟩)] ?_ (hc := (by simp [closedB, valsB, valB, List.all_eq_true, List.mem_flatMap, List.mem_range, List.mem_map, i64v, ptc, i64v, flat1]; try (intros; simp [valsB, valB, flat1]); try decide))
    refine al_ind (fun i : Nat × Int × Int × Int => (fun (j : Nat) (y : Int) (p : Int) (q : Int) => mkSt 1 [(3, .slice (some ⟨1, 0, none⟩) ps.length 0), (4, .int .i64 p), (5, .int .i64 q), (6, .pointer (some ⟨2, 0, none⟩)), (7, .int .i64 x), (8, .int .i64 y)] [(0, ⟨(xs.map i64v), 3, false, 1⟩), (1, ⟨(ps.flatMap ptc), 27, true, 2⟩), (2, ⟨[.int .i64 a, .int .i64 b, .int .i64 (a + (M : Int) - 1), .int .i64 (b + (M : Int) - 1)], 41, true, 4⟩)]) i.1 i.2.1 i.2.2.1 i.2.2.2) (fun i : Nat × Int × Int × Int => (fun (j : Nat) (y : Int) (p : Int) (q : Int) => (j ≤ M) ∧ (y = b + ((j : Nat) : Int)) ∧ (p = Sp.cnI ps a b M 1 c j) ∧ (q = Sp.cnI ps a b M 0 c j)) i.1 i.2.1 i.2.2.1 i.2.2.2) (fun i : Nat × Int × Int × Int => (fun (j : Nat) (y : Int) (p : Int) (q : Int) => M - j) i.1 i.2.1 i.2.2.1 i.2.2.2) (fun i hi2 ih2 => ?_) (0, b, p, q) (show (0 ≤ M) ∧ (b = b + ((0 : Nat) : Int)) ∧ (p = Sp.cnI ps a b M 1 c 0) ∧ (q = Sp.cnI ps a b M 0 c 0) from ⟨by omega, by omega, by exact hp, by exact hq⟩)
    obtain ⟨j, y, p, q⟩ := i
    have hi2' : (j ≤ M) ∧ (y = b + ((j : Nat) : Int)) ∧ (p = Sp.cnI ps a b M 1 c j) ∧ (q = Sp.cnI ps a b M 0 c j) := hi2
    obtain ⟨hj, hy, hp, hq⟩ := hi2'
    show AL _ _ _ (mkSt 1 [(3, .slice (some ⟨1, 0, none⟩) ps.length 0), (4, .int .i64 p), (5, .int .i64 q), (6, .pointer (some ⟨2, 0, none⟩)), (7, .int .i64 x), (8, .int .i64 y)] [(0, ⟨(xs.map i64v), 3, false, 1⟩), (1, ⟨(ps.flatMap ptc), 27, true, 2⟩), (2, ⟨[.int .i64 a, .int .i64 b, .int .i64 (a + (M : Int) - 1), .int .i64 (b + (M : Int) - 1)], 41, true, 4⟩)]) _
    have e1 := Sp.cnI_bd (ps := ps) (a := a) (b := b) (v := 1) (i := c) (j := j) hM.2 (by omega) (by omega)
    have e0 := Sp.cnI_bd (ps := ps) (a := a) (b := b) (v := 0) (i := c) (j := j) hM.2 (by omega) (by omega)
    obtain ⟨n, hn⟩ : ∃ n, Sp.hasF ps x y 0 (-1) = n := ⟨_, rfl⟩
    have s1 := Sp.cnI_step (M := M) (i := c) (j := j) (v := 1) (a := a) (b := b) (n := n) (by rw [← hx, ← hy]; exact hn)
    have s0 := Sp.cnI_step (M := M) (i := c) (j := j) (v := 0) (a := a) (b := b) (n := n) (by rw [← hx, ← hy]; exact hn)
    refine al_round ?_
    refine aw_sq 130014 130015 ?_
    refine aw_p 260029 (
      .a 5 3 <| .nil _ _) ?_
    refine aw_cd 520058 520059 (decide (y ≤ (b + (M : Int) - 1))) (fun h2 => ?_) (fun h2 => ?_)
    · have h2p : ((y ≤ (b + (M : Int) - 1))) := by first | (simpa using h2) | (have h2q := h2; simp at h2q; omega) | (have h2q := bx1 h2; simp at h2q; omega)
      refine aw_sk ?_
      refine then_normal ?_
      refine aw_sq 260030 260031 ?_
      refine aw_bl 3 520061 ?_
      refine aw_p 1040123 (
        .a 3 3 <| .p (does_c (terrkeep1_at_ok x y)) <|
        .p (does_callB (x := .func 8) (ars := #[.tmp 35, .tmp 38]) (ats := #[24, 27]) (g := 8) (vs := [.slice (some ⟨1, 0, none⟩) ps.length 0, .agg #[.int .i64 x, .int .i64 y]]) (m := 1) (r := 0) (firsts := #[]) (caps := #[]) (args0 := [.slice (some ⟨0, 0, none⟩) ps.length 0, .agg #[.int .i64 x, .int .i64 y]]) (pre0 := [(0, ⟨(ps.flatMap ptc), 27, true, 2⟩)]) (post0 := [(0, ⟨(ps.flatMap ptc), 27, true, 2⟩)]) (pre := [(1, ⟨(ps.flatMap ptc), 27, true, 2⟩)]) (post := [(1, ⟨(ps.flatMap ptc), 27, true, 2⟩)]) (v0 := .int .i64 n) (v := .int .i64 n) [1] (by kernel_rfl) (by kernel_rfl) (by kernel_rfl) (by kernel_rfl) ((by have q := hasn_own ps ps.length rfl (by omega) x y; rw [Sp.lim_id (n := x) (by omega) (by omega), Sp.lim_id (n := y) (by omega) (by omega), hn] at q; exact q)) (.cons (.slice _ _ _ _ _ (by decide)) (.cons (.flatB (by kernel_rfl)) .nil)) ⟨rfl, ⟨rfl, rfl, rfl, (.flats (flats_pair _))⟩, trivial⟩ (by kernel_rfl) (by kernel_rfl) (by kernel_rfl) ⟨rfl, ⟨rfl, rfl, rfl, (.flats (flats_pair _))⟩, trivial⟩ (.flatB (by kernel_rfl))) <| .nil _ _) ?_
      refine aw_bl 4 2080247 ?_
      refine aw_p 4160495 (
        .a 2 3 <| .nil _ _) ?_
      refine aw_cd 8320990 8320991 (n == 1) (fun h3 => ?_) (fun h3 => ?_)
      · have h3p : ((n = 1)) := by first | (simpa using h3) | (have h3q := h3; simp at h3q; omega) | (have h3q := bx1 h3; simp at h3q; omega)
        refine aw_p1 (
          .a 1 3 <| .p (does_i (p + 1) (wrap_i64 (by omega) (by omega)) .i64) <| .a 1 3 <| .nil _ _) ?_
        refine block_normal ?_
        refine block_normal ?_
        refine then_normal ?_
        refine aw_p1 (
          .a 1 3 <| .p (does_i (y + 1) (wrap_i64 (by omega) (by omega)) .i64) <| .a 1 3 <| .nil _ _) ?_
        refine then_normal ?_
        refine al_w [(3, .slice (some ⟨1, 0, none⟩) ps.length 0), (4, .int .i64 (p + 1)), (5, .int .i64 q), (6, .pointer (some ⟨2, 0, none⟩)), (7, .int .i64 x), (8, .int .i64 (y + 1))] [(0, ⟨(xs.map i64v), 3, false, 1⟩), (1, ⟨(ps.flatMap ptc), 27, true, 2⟩), (2, ⟨[.int .i64 a, .int .i64 b, .int .i64 (a + (M : Int) - 1), .int .i64 (b + (M : Int) - 1)], 41, true, 4⟩)] ?_ (hc := (by simp [closedB, valsB, valB, List.all_eq_true, List.mem_flatMap, List.mem_range, List.mem_map, i64v, ptc, i64v, flat1]; try (intros; simp [valsB, valB, flat1]); try decide))
        exact ih2 ((j + 1), (y + 1), (p + 1), q) (show ((j + 1) ≤ M) ∧ ((y + 1) = b + (((j + 1) : Nat) : Int)) ∧ ((p + 1) = Sp.cnI ps a b M 1 c (j + 1)) ∧ (q = Sp.cnI ps a b M 0 c (j + 1)) from ⟨by omega, by omega, by omega, by omega⟩) (show M - (j + 1) < M - j from by omega)
      · have h3p : ¬ ((n = 1)) := by first | (simpa using h3) | (have h3q := h3; simp at h3q; omega) | (have h3q := bx2 h3; simp at h3q; omega)
        refine aw_p 16641983 (
          .a 2 3 <| .nil _ _) ?_
        refine aw_cd 33283966 33283967 (n == 0) (fun h4 => ?_) (fun h4 => ?_)
        · have h4p : ((n = 0)) := by first | (simpa using h4) | (have h4q := h4; simp at h4q; omega) | (have h4q := bx1 h4; simp at h4q; omega)
          refine aw_p1 (
            .a 1 3 <| .p (does_i (q + 1) (wrap_i64 (by omega) (by omega)) .i64) <| .a 1 3 <| .nil _ _) ?_
          refine block_normal ?_
          refine block_normal ?_
          refine then_normal ?_
          refine aw_p1 (
            .a 1 3 <| .p (does_i (y + 1) (wrap_i64 (by omega) (by omega)) .i64) <| .a 1 3 <| .nil _ _) ?_
          refine then_normal ?_
          refine al_w [(3, .slice (some ⟨1, 0, none⟩) ps.length 0), (4, .int .i64 p), (5, .int .i64 (q + 1)), (6, .pointer (some ⟨2, 0, none⟩)), (7, .int .i64 x), (8, .int .i64 (y + 1))] [(0, ⟨(xs.map i64v), 3, false, 1⟩), (1, ⟨(ps.flatMap ptc), 27, true, 2⟩), (2, ⟨[.int .i64 a, .int .i64 b, .int .i64 (a + (M : Int) - 1), .int .i64 (b + (M : Int) - 1)], 41, true, 4⟩)] ?_ (hc := (by simp [closedB, valsB, valB, List.all_eq_true, List.mem_flatMap, List.mem_range, List.mem_map, i64v, ptc, i64v, flat1]; try (intros; simp [valsB, valB, flat1]); try decide))
          exact ih2 ((j + 1), (y + 1), p, (q + 1)) (show ((j + 1) ≤ M) ∧ ((y + 1) = b + (((j + 1) : Nat) : Int)) ∧ (p = Sp.cnI ps a b M 1 c (j + 1)) ∧ ((q + 1) = Sp.cnI ps a b M 0 c (j + 1)) from ⟨by omega, by omega, by omega, by omega⟩) (show M - (j + 1) < M - j from by omega)
        · have h4p : ¬ ((n = 0)) := by first | (simpa using h4) | (have h4q := h4; simp at h4q; omega) | (have h4q := bx2 h4; simp at h4q; omega)
          refine aw_sk ?_
          refine block_normal ?_
          refine block_normal ?_
          refine then_normal ?_
          refine aw_p1 (
            .a 1 3 <| .p (does_i (y + 1) (wrap_i64 (by omega) (by omega)) .i64) <| .a 1 3 <| .nil _ _) ?_
          refine then_normal ?_
          refine al_w [(3, .slice (some ⟨1, 0, none⟩) ps.length 0), (4, .int .i64 p), (5, .int .i64 q), (6, .pointer (some ⟨2, 0, none⟩)), (7, .int .i64 x), (8, .int .i64 (y + 1))] [(0, ⟨(xs.map i64v), 3, false, 1⟩), (1, ⟨(ps.flatMap ptc), 27, true, 2⟩), (2, ⟨[.int .i64 a, .int .i64 b, .int .i64 (a + (M : Int) - 1), .int .i64 (b + (M : Int) - 1)], 41, true, 4⟩)] ?_ (hc := (by simp [closedB, valsB, valB, List.all_eq_true, List.mem_flatMap, List.mem_range, List.mem_map, i64v, ptc, i64v, flat1]; try (intros; simp [valsB, valB, flat1]); try decide))
          exact ih2 ((j + 1), (y + 1), p, q) (show ((j + 1) ≤ M) ∧ ((y + 1) = b + (((j + 1) : Nat) : Int)) ∧ (p = Sp.cnI ps a b M 1 c (j + 1)) ∧ (q = Sp.cnI ps a b M 0 c (j + 1)) from ⟨by omega, by omega, by omega, by omega⟩) (show M - (j + 1) < M - j from by omega)
    · have h2p : ¬ ((y ≤ (b + (M : Int) - 1))) := by first | (simpa using h2) | (have h2q := h2; simp at h2q; omega) | (have h2q := bx2 h2; simp at h2q; omega)
      refine aw_ex 2 ?_
      refine then_exit ?_
      refine then_exit ?_
      refine block_exit ?_
      refine block_normal ?_
      refine then_normal ?_
      refine aw_p1 (
        .a 1 3 <| .p (does_i (x + 1) (wrap_i64 (by omega) (by omega)) .i64) <| .a 1 3 <| .nil _ _) ?_
      refine then_normal ?_
      refine al_w [(3, .slice (some ⟨1, 0, none⟩) ps.length 0), (4, .int .i64 p), (5, .int .i64 q), (6, .pointer (some ⟨2, 0, none⟩)), (7, .int .i64 (x + 1))] [(0, ⟨(xs.map i64v), 3, false, 1⟩), (1, ⟨(ps.flatMap ptc), 27, true, 2⟩), (2, ⟨[.int .i64 a, .int .i64 b, .int .i64 (a + (M : Int) - 1), .int .i64 (b + (M : Int) - 1)], 41, true, 4⟩)] ?_ (hc := (by simp [closedB, valsB, valB, List.all_eq_true, List.mem_flatMap, List.mem_range, List.mem_map, i64v, ptc, i64v, flat1]; try (intros; simp [valsB, valB, flat1]); try decide))
      exact ih1 ((c + 1), (x + 1), p, q) (show ((c + 1) ≤ M) ∧ ((x + 1) = a + (((c + 1) : Nat) : Int)) ∧ (p = Sp.cnI ps a b M 1 (c + 1) 0) ∧ (q = Sp.cnI ps a b M 0 (c + 1) 0) from ⟨by omega, by omega, by (have hj : j = M := (by omega); rw [hp, hj]; exact Sp.cnI_roll), by (have hj : j = M := (by omega); rw [hq, hj]; exact Sp.cnI_roll)⟩) (show M - (c + 1) < M - c from by omega)
  · have h1p : ¬ ((x ≤ (a + (M : Int) - 1))) := by first | (simpa using h1) | (have h1q := h1; simp at h1q; omega) | (have h1q := bx2 h1; simp at h1q; omega)
    refine aw_ex 0 ?_
    refine then_exit ?_
    refine then_exit ?_
    refine block_exit ?_
    refine then_normal ?_
    refine aw_p 255 (
      .a 1 3 <|
      .p (does_callB (x := .func 12) (ars := #[.tmp 48]) (ats := #[24]) (g := 12) (vs := [.slice (some ⟨1, 0, none⟩) ps.length 0]) (m := 1) (r := 0) (firsts := #[]) (caps := #[]) (args0 := [.slice (some ⟨0, 0, none⟩) ps.length 0]) (pre0 := [(0, ⟨(ps.flatMap ptc), 27, true, 2⟩)]) (post0 := [(0, ⟨(ps.flatMap ptc), 27, true, 2⟩)]) (pre := [(1, ⟨(ps.flatMap ptc), 27, true, 2⟩)]) (post := [(1, ⟨(ps.flatMap ptc), 27, true, 2⟩)]) (v0 := .int .i64 (Sp.areaN ps)) (v := .int .i64 (Sp.areaN ps)) [1] (by kernel_rfl) (by kernel_rfl) (by kernel_rfl) (by kernel_rfl) ((by have q := twicen_own ps ps.length rfl (by omega); rw [t1] at q; exact q)) (.cons (.slice _ _ _ _ _ (by decide)) .nil) ⟨rfl, ⟨rfl, rfl, rfl, (.flats (flats_pair _))⟩, trivial⟩ (by kernel_rfl) (by kernel_rfl) (by kernel_rfl) ⟨rfl, ⟨rfl, rfl, rfl, (.flats (flats_pair _))⟩, trivial⟩ (.flatB (by kernel_rfl))) <|
      .a 1 3 <| .p (does_i (2 * p) (wrap_i64 (by omega) (by omega)) .i64) <| .a 1 3 <| .p (does_i ((2 * p) + q) (wrap_i64 (by omega) (by omega)) .i64) <| .p (does_i (((2 * p) + q) - 2) (wrap_i64 (by omega) (by omega)) .i64) <|
      .p (does_b true ((show ((Sp.areaN ps) == (((2 * p) + q) - 2)) = true from (by have hi2 : c = M := (by omega); rw [beq_iff_eq, hpk, hp, hq, hi2])))) <| .a 1 3 <| .nil _ _) ?_
    refine aw_rt ?_
    exact en_ret [.bool true] (by kernel_rfl)


end Go.Proofs.Ytomnkdlfmjdckaa.Am
