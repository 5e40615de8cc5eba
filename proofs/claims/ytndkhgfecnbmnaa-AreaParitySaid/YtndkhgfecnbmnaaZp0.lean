/-
  The walks of the law AreaParity, area by area.
-/
import Derived.Test.YtndkhgfecnbmnaaProg
import Derived.Test.YtndkhgfecnbmnaaAm16
import Derived.Test.YtndkhgfecnbmnaaZ5
import Derived.Test.YtndkhgfecnbmnaaZ8
import Derived.Test.YtndkhgfecnbmnaaZn
import Derived.Test.YtndkhgfecnbmnaaZb
import Derived.Test.YtndkhgfecnbmnaaBx
namespace Go.Proofs.Ytndkhgfecnbmnaa.Am
open Go Go.Proofs
set_option maxRecDepth 100000
set_option maxHeartbeats 4000000
set_option linter.unusedVariables false
set_option linter.unusedSimpArgs false

theorem aw_joinG_0 {ι : Type} {C : Ctx} {P : Program} {S : St} {S1 : ι → St} {x y : Code} {Q : Exit → St → Prop} (F : ι → Prop) (h : ∀ i, F i → AW C P y (S1 i) Q) (k : (∀ i, F i → AW C P y (S1 i) Q) → AW C P x S Q) : AW C P x S Q := k h
theorem areaParity_0 (xs : List Int) (R1 : List (Int × Int)) (zR1 : 1 ≤ R1.length ∧ R1.length ≤ 200) (fR1 : Sp.Few 1000 R1) (cR1 : Sp.chkF R1 = 0) (hm : AC Try.prog 9 1 [.slice (some ⟨0, 0, none⟩) xs.length 0] [(0, ⟨(xs.map i64v), 3, false, 1⟩)] (.slice (some ⟨1, 0, none⟩) 1 0) [(1, ⟨[.slice (some ⟨2, 0, none⟩) R1.length 0], 30, true, 1⟩), (2, ⟨(R1.flatMap ptc), 28, true, 2⟩)]) (u px py : Int) (hu : AC Try.prog 10 0 [.int .i64 u] [] (.agg #[.int .i64 px, .int .i64 py]) []) (bpx : -40 ≤ px) (cpx : px ≤ 40) (bpy : -40 ≤ py) (cpy : py ≤ 40) :
    AC Try.prog 3 1 ([.slice (some ⟨0, 0, none⟩) xs.length 0, .int .i64 u]) [(0, ⟨(xs.map i64v), 3, false, 1⟩)] (.bool true) [] := by
  refine ac_in Try.func3 (fun w0 W pin => ?_)
  refine aw_p 3 (
    .a 1 1 <| .nil _ _) ?_
  refine aw_sq 6 7 ?_
  refine aw_p 13 (
    .p (does_c (areaBegun_ok)) <| .a 1 1 <| .nil _ _) ?_
  refine aw_fl 27 ?_
  refine aw_sk ?_
  refine then_normal ?_
  refine aw_p 15 (
    .a 1 1 <|
    .p (does_callB (x := .func 9) (ars := #[.tmp 15]) (ats := #[22]) (g := 9) (vs := [.slice (some ⟨0, 0, none⟩) xs.length 0]) (m := 1) (r := 2) (firsts := #[]) (caps := #[]) (args0 := [.slice (some ⟨0, 0, none⟩) xs.length 0]) (pre0 := [(0, ⟨(xs.map i64v), 3, false, 1⟩)]) (post0 := [(1, ⟨[.slice (some ⟨2, 0, none⟩) R1.length 0], 30, true, 1⟩), (2, ⟨(R1.flatMap ptc), 28, true, 2⟩)]) (pre := [(0, ⟨(xs.map i64v), 3, false, 1⟩)]) (post := [(1, ⟨[.slice (some ⟨2, 0, none⟩) R1.length 0], 30, true, 1⟩), (2, ⟨(R1.flatMap ptc), 28, true, 2⟩)]) (v0 := .slice (some ⟨1, 0, none⟩) 1 0) (v := .slice (some ⟨1, 0, none⟩) 1 0) [0, 1, 2] (by kernel_rfl) (by kernel_rfl) (by kernel_rfl) (by kernel_rfl) (hm) (.cons (.slice _ _ _ _ _ (by decide)) .nil) ⟨rfl, ⟨rfl, rfl, rfl, (.flats (flats_map (fun _ => rfl) _))⟩, trivial⟩ (by kernel_rfl) (by kernel_rfl) (by kernel_rfl) ⟨rfl, ⟨rfl, rfl, rfl, (.cons (.slice _ _ _ _ _ (by decide)) .nil)⟩, rfl, ⟨rfl, rfl, rfl, (.flats (flats_pair _))⟩, trivial⟩ (.slice _ _ _ _ _ (by decide))) <|
    .a 1 3 <| .p (does_c (hu)) <| .a 3 3 <| .nil _ _) ?_
  refine aw_p 31 (
    .a 2 4 <| .nil _ _) ?_
  refine aw_joinG_0 (y := sb Try.f3 63) (S1 := (fun z : Int × Bool => ((fun (many : Int) (on : Bool) => mkSt 1 [(5, .slice (some ⟨1, 0, none⟩) 1 0), (6, .pointer (some ⟨3, 0, none⟩)), (7, .int .i64 many), (8, .bool on)] [(0, ⟨(xs.map i64v), 3, false, 1⟩), (1, ⟨[.slice (some ⟨2, 0, none⟩) R1.length 0], 30, true, 1⟩), (2, ⟨(R1.flatMap ptc), 28, true, 2⟩), (3, ⟨[.int .i64 px, .int .i64 py], 28, true, 2⟩)]) z.1 z.2))) (fun z : Int × Bool => ((fun (many : Int) (on : Bool) => Sp.tlF [Sp.hasF R1 (Sp.lim 1048576 px) (Sp.lim 1048576 py) 0 (-1)] many on) z.1 z.2)) (fun z hz => ?_) (fun K => ?_)
  · obtain ⟨many, on⟩ := z
    have hF : Sp.tlF [Sp.hasF R1 (Sp.lim 1048576 px) (Sp.lim 1048576 py) 0 (-1)] many on := hz
    clear hz
    show AW _ _ _ (mkSt 1 [(5, .slice (some ⟨1, 0, none⟩) 1 0), (6, .pointer (some ⟨3, 0, none⟩)), (7, .int .i64 many), (8, .bool on)] [(0, ⟨(xs.map i64v), 3, false, 1⟩), (1, ⟨[.slice (some ⟨2, 0, none⟩) R1.length 0], 30, true, 1⟩), (2, ⟨(R1.flatMap ptc), 28, true, 2⟩), (3, ⟨[.int .i64 px, .int .i64 py], 28, true, 2⟩)]) _
    refine aw_p 127 (
      .a 2 4 <|
      .p (does_callB (x := .func 12) (ars := #[.tmp 35, .tmp 36]) (ats := #[25, 28]) (g := 12) (vs := [.slice (some ⟨1, 0, none⟩) 1 0, .agg #[.int .i64 px, .int .i64 py]]) (m := 2) (r := 0) (firsts := #[]) (caps := #[]) (args0 := [.slice (some ⟨0, 0, none⟩) 1 0, .agg #[.int .i64 px, .int .i64 py]]) (pre0 := [(0, ⟨[.slice (some ⟨1, 0, none⟩) R1.length 0], 30, true, 1⟩), (1, ⟨(R1.flatMap ptc), 28, true, 2⟩)]) (post0 := [(0, ⟨[.slice (some ⟨1, 0, none⟩) R1.length 0], 30, true, 1⟩), (1, ⟨(R1.flatMap ptc), 28, true, 2⟩)]) (pre := [(1, ⟨[.slice (some ⟨2, 0, none⟩) R1.length 0], 30, true, 1⟩), (2, ⟨(R1.flatMap ptc), 28, true, 2⟩)]) (post := [(1, ⟨[.slice (some ⟨2, 0, none⟩) R1.length 0], 30, true, 1⟩), (2, ⟨(R1.flatMap ptc), 28, true, 2⟩)]) (v0 := .int .i64 (Sp.ahF [Sp.hasF R1 (Sp.lim 1048576 px) (Sp.lim 1048576 py) 0 (-1)] (-1))) (v := .int .i64 (Sp.ahF [Sp.hasF R1 (Sp.lim 1048576 px) (Sp.lim 1048576 py) 0 (-1)] (-1))) [1, 2] (by kernel_rfl) (by kernel_rfl) (by kernel_rfl) (by kernel_rfl) (ahas_1 R1 zR1 fR1 px py) (.cons (.slice _ _ _ _ _ (by decide)) (.cons (.flatB (by kernel_rfl)) .nil)) ⟨rfl, ⟨rfl, rfl, rfl, (.cons (.slice _ _ _ _ _ (by decide)) .nil)⟩, rfl, ⟨rfl, rfl, rfl, (.flats (flats_pair _))⟩, trivial⟩ (by kernel_rfl) (by kernel_rfl) (by kernel_rfl) ⟨rfl, ⟨rfl, rfl, rfl, (.cons (.slice _ _ _ _ _ (by decide)) .nil)⟩, rfl, ⟨rfl, rfl, rfl, (.flats (flats_pair _))⟩, trivial⟩ (.flatB (by kernel_rfl))) <|
      .a 1 4 <| .nil _ _) ?_
    refine aw_p 255 (
      .a 1 4 <|
      .p (does_callB (x := .func 13) (ars := #[.tmp 38]) (ats := #[25]) (g := 13) (vs := [.slice (some ⟨1, 0, none⟩) 1 0]) (m := 2) (r := 1) (firsts := #[]) (caps := #[]) (args0 := [.slice (some ⟨0, 0, none⟩) 1 0]) (pre0 := [(0, ⟨[.slice (some ⟨1, 0, none⟩) R1.length 0], 30, true, 1⟩), (1, ⟨(R1.flatMap ptc), 28, true, 2⟩)]) (post0 := [(0, ⟨[.slice (some ⟨1, 0, none⟩) R1.length 0], 30, true, 1⟩), (1, ⟨(R1.flatMap ptc), 28, true, 2⟩), (2, ⟨[.int .i64 0], 3, true, 1⟩)]) (pre := [(1, ⟨[.slice (some ⟨2, 0, none⟩) R1.length 0], 30, true, 1⟩), (2, ⟨(R1.flatMap ptc), 28, true, 2⟩)]) (post := [(1, ⟨[.slice (some ⟨2, 0, none⟩) R1.length 0], 30, true, 1⟩), (2, ⟨(R1.flatMap ptc), 28, true, 2⟩), (4, ⟨[.int .i64 0], 3, true, 1⟩)]) (v0 := .slice (some ⟨2, 0, none⟩) 1 0) (v := .slice (some ⟨4, 0, none⟩) 1 0) [1, 2, 4] (by kernel_rfl) (by kernel_rfl) (by kernel_rfl) (by kernel_rfl) (adepth_n1 R1 zR1 fR1 cR1) (.cons (.slice _ _ _ _ _ (by decide)) .nil) ⟨rfl, ⟨rfl, rfl, rfl, (.cons (.slice _ _ _ _ _ (by decide)) .nil)⟩, rfl, ⟨rfl, rfl, rfl, (.flats (flats_pair _))⟩, trivial⟩ (by kernel_rfl) (by kernel_rfl) (by kernel_rfl) ⟨rfl, ⟨rfl, rfl, rfl, (.cons (.slice _ _ _ _ _ (by decide)) .nil)⟩, rfl, ⟨rfl, rfl, rfl, (.flats (flats_pair _))⟩, rfl, ⟨rfl, rfl, rfl, (.flats (by kernel_rfl))⟩, trivial⟩ (.slice _ _ _ _ _ (by decide))) <|
      .a 1 5 <| .nil _ _) ?_
    refine aw_sq 510 511 ?_
    rcases Bool.eq_false_or_eq_true (decide ((Sp.ahF [Sp.hasF R1 (Sp.lim 1048576 px) (Sp.lim 1048576 py) 0 (-1)] (-1)) ≥ 0)) with h1 | h1
    · have h1p : (((Sp.ahF [Sp.hasF R1 (Sp.lim 1048576 px) (Sp.lim 1048576 py) 0 (-1)] (-1)) ≥ 0)) := by first | (simpa using h1) | (have h1q := h1; simp at h1q; omega) | (have h1q := bx1 h1; simp at h1q; omega)
      refine aw_d 1021 (
        .a 11 5 <| .p (does_k [4] (mini_0)) <| .a 5 5 <| .p (does_b true (h1)) <| .a 2 5 <|
        .p (does_callB (x := .func 16) (ars := #[.tmp 59]) (ats := #[25]) (g := 16) (vs := [.slice (some ⟨1, 0, none⟩) 1 0]) (m := 2) (r := 0) (firsts := #[]) (caps := #[]) (args0 := [.slice (some ⟨0, 0, none⟩) 1 0]) (pre0 := [(0, ⟨[.slice (some ⟨1, 0, none⟩) R1.length 0], 30, true, 1⟩), (1, ⟨(R1.flatMap ptc), 28, true, 2⟩)]) (post0 := [(0, ⟨[.slice (some ⟨1, 0, none⟩) R1.length 0], 30, true, 1⟩), (1, ⟨(R1.flatMap ptc), 28, true, 2⟩)]) (pre := [(1, ⟨[.slice (some ⟨2, 0, none⟩) R1.length 0], 30, true, 1⟩), (2, ⟨(R1.flatMap ptc), 28, true, 2⟩)]) (post := [(1, ⟨[.slice (some ⟨2, 0, none⟩) R1.length 0], 30, true, 1⟩), (2, ⟨(R1.flatMap ptc), 28, true, 2⟩)]) (v0 := .agg #[.int .i64 ((Sp.bxr R1 R1.length).1), .int .i64 ((Sp.bxr R1 R1.length).2.1), .int .i64 ((Sp.bxr R1 R1.length).2.2.1), .int .i64 ((Sp.bxr R1 R1.length).2.2.2)]) (v := .agg #[.int .i64 ((Sp.bxr R1 R1.length).1), .int .i64 ((Sp.bxr R1 R1.length).2.1), .int .i64 ((Sp.bxr R1 R1.length).2.2.1), .int .i64 ((Sp.bxr R1 R1.length).2.2.2)]) [1, 2] (by kernel_rfl) (by kernel_rfl) (by kernel_rfl) (by kernel_rfl) (abox_1 R1 zR1 fR1) (.cons (.slice _ _ _ _ _ (by decide)) .nil) ⟨rfl, ⟨rfl, rfl, rfl, (.cons (.slice _ _ _ _ _ (by decide)) .nil)⟩, rfl, ⟨rfl, rfl, rfl, (.flats (flats_pair _))⟩, trivial⟩ (by kernel_rfl) (by kernel_rfl) (by kernel_rfl) ⟨rfl, ⟨rfl, rfl, rfl, (.cons (.slice _ _ _ _ _ (by decide)) .nil)⟩, rfl, ⟨rfl, rfl, rfl, (.flats (flats_pair _))⟩, trivial⟩ (.flatB (by kernel_rfl))) <|
        .a 1 5 <|
        .p (does_cb _ (has_ok ((Sp.bxr R1 R1.length).1) ((Sp.bxr R1 R1.length).2.1) ((Sp.bxr R1 R1.length).2.2.1) ((Sp.bxr R1 R1.length).2.2.2) px py) true ((show (Sp.inbox ((Sp.bxr R1 R1.length).1) ((Sp.bxr R1 R1.length).2.1) ((Sp.bxr R1 R1.length).2.2.1) ((Sp.bxr R1 R1.length).2.2.2) px py) = true from (show Sp.inbox ((Sp.bxr R1 R1.length).1) ((Sp.bxr R1 R1.length).2.1) ((Sp.bxr R1 R1.length).2.2.1) ((Sp.bxr R1 R1.length).2.2.2) px py = true from by obtain ⟨x, hm, hh⟩ := Sp.ahF_some (of_decide_eq_true h1); simp only [List.mem_cons, List.not_mem_nil, or_false] at hm; rcases hm with rfl <;> (first | exact Sp.in_abox (m := 1000) (R := R1) (by decide) (fun q hq => by simp [hq]) fR1 ⟨by omega, by omega⟩ ⟨by omega, by omega⟩ hh))))) <|
        .a 3 5 <| .nil _ _) ?_
      refine aw_fl 2043 ?_
      refine aw_sk ?_
      refine then_normal ?_
      rcases Bool.eq_false_or_eq_true (on) with h2 | h2
      · refine aw_p 1023 (
          .p (does_b true (h2)) <| .a 1 5 <| .p (does_b true ((show ((Sp.ahF [Sp.hasF R1 (Sp.lim 1048576 px) (Sp.lim 1048576 py) 0 (-1)] (-1)) == 0) = true from (by have q := Sp.tl_on hF; rw [h2] at q; simpa using q)))) <| .a 2 5 <| .p (does_b true (h2)) <| .a 10 5 <| .nil _ _) ?_
        refine aw_rt ?_
        exact en_ret [.bool true] (by kernel_rfl)
      · refine aw_p 1023 (
          .p (does_b false (h2)) <| .a 1 5 <| .p (does_b false ((show ((Sp.ahF [Sp.hasF R1 (Sp.lim 1048576 px) (Sp.lim 1048576 py) 0 (-1)] (-1)) == 0) = false from (by have q := Sp.tl_on hF; rw [h2] at q; simpa using q)))) <| .a 2 5 <| .p (does_b false (h2)) <| .a 6 5 <| .p (does_b true ((Sp.tl_par hF h2))) <|
          .a 3 5 <| .nil _ _) ?_
        refine aw_rt ?_
        exact en_ret [.bool true] (by kernel_rfl)
    · have h1p : ¬ (((Sp.ahF [Sp.hasF R1 (Sp.lim 1048576 px) (Sp.lim 1048576 py) 0 (-1)] (-1)) ≥ 0)) := by first | (simpa using h1) | (have h1q := h1; simp at h1q; omega) | (have h1q := bx2 h1; simp at h1q; omega)
      refine aw_d 1021 (
        .a 11 5 <| .p (does_k [4] (mini_0)) <| .a 5 5 <| .p (does_b false (h1)) <| .a 8 5 <| .nil _ _) ?_
      refine aw_fl 2043 ?_
      refine aw_sk ?_
      refine then_normal ?_
      rcases Bool.eq_false_or_eq_true (on) with h3 | h3
      · refine aw_p 1023 (
          .p (does_b true (h3)) <| .a 1 5 <| .p (does_b true ((show ((Sp.ahF [Sp.hasF R1 (Sp.lim 1048576 px) (Sp.lim 1048576 py) 0 (-1)] (-1)) == 0) = true from (by have q := Sp.tl_on hF; rw [h3] at q; simpa using q)))) <| .a 2 5 <| .p (does_b true (h3)) <| .a 10 5 <| .nil _ _) ?_
        refine aw_rt ?_
        exact en_ret [.bool true] (by kernel_rfl)
      · refine aw_p 1023 (
          .p (does_b false (h3)) <| .a 1 5 <| .p (does_b false ((show ((Sp.ahF [Sp.hasF R1 (Sp.lim 1048576 px) (Sp.lim 1048576 py) 0 (-1)] (-1)) == 0) = false from (by have q := Sp.tl_on hF; rw [h3] at q; simpa using q)))) <| .a 2 5 <| .p (does_b false (h3)) <| .a 6 5 <| .p (does_b true ((Sp.tl_par hF h3))) <|
          .a 3 5 <| .nil _ _) ?_
        refine aw_rt ?_
        exact en_ret [.bool true] (by kernel_rfl)
  · skip
    refine aw_sq 62 63 ?_
    refine aw_p 125 (
      .a 3 4 <| .nil _ _) ?_
    refine aw_bl 0 251 ?_
    refine aw_lp 503 ?_
    refine al_round ?_
    refine aw_p 1007 (
      .a 1 4 <| .nil _ _) ?_
    refine aw_sq 2014 2015 ?_
    refine aw_tr 4028 ?_
    refine aw_sk ?_
    refine then_normal ?_
    refine aw_sq 4030 4031 ?_
    refine aw_bl 1 8061 ?_
    refine aw_p 16123 (
      .a 3 4 <| .nil _ _) ?_
    refine aw_p 32247 (
      .a 2 4 <|
      .p (does_callB (x := .func 11) (ars := #[.tmp 25, .tmp 26]) (ats := #[30, 28]) (g := 11) (vs := [.slice (some ⟨2, 0, none⟩) R1.length 0, .agg #[.int .i64 px, .int .i64 py]]) (m := 1) (r := 0) (firsts := #[]) (caps := #[]) (args0 := [.slice (some ⟨0, 0, none⟩) R1.length 0, .agg #[.int .i64 px, .int .i64 py]]) (pre0 := [(0, ⟨(R1.flatMap ptc), 28, true, 2⟩)]) (post0 := [(0, ⟨(R1.flatMap ptc), 28, true, 2⟩)]) (pre := [(2, ⟨(R1.flatMap ptc), 28, true, 2⟩)]) (post := [(2, ⟨(R1.flatMap ptc), 28, true, 2⟩)]) (v0 := .int .i64 (Sp.hasF R1 (Sp.lim 1048576 px) (Sp.lim 1048576 py) 0 (-1))) (v := .int .i64 (Sp.hasF R1 (Sp.lim 1048576 px) (Sp.lim 1048576 py) 0 (-1))) [2] (by kernel_rfl) (by kernel_rfl) (by kernel_rfl) (by kernel_rfl) (hasn_own R1 R1.length rfl (by omega) px py) (.cons (.slice _ _ _ _ _ (by decide)) (.cons (.flatB (by kernel_rfl)) .nil)) ⟨rfl, ⟨rfl, rfl, rfl, (.flats (flats_pair _))⟩, trivial⟩ (by kernel_rfl) (by kernel_rfl) (by kernel_rfl) ⟨rfl, ⟨rfl, rfl, rfl, (.flats (flats_pair _))⟩, trivial⟩ (.flatB (by kernel_rfl))) <| .nil _ _) ?_
    refine aw_bl 2 64495 ?_
    refine aw_p 128991 (
      .a 2 4 <| .nil _ _) ?_
    refine aw_cd 257982 257983 ((Sp.hasF R1 (Sp.lim 1048576 px) (Sp.lim 1048576 py) 0 (-1)) == 1) (fun h4 => ?_) (fun h4 => ?_)
    · have h4p : (((Sp.hasF R1 (Sp.lim 1048576 px) (Sp.lim 1048576 py) 0 (-1)) = 1)) := by first | (simpa using h4) | (have h4q := h4; simp at h4q; omega) | (have h4q := bx1 h4; simp at h4q; omega)
      refine aw_p1 (
        .a 3 4 <| .nil _ _) ?_
      refine block_normal ?_
      refine block_normal ?_
      refine then_normal ?_
      refine aw_p1 (
        .a 2 4 <| .nil _ _) ?_
      refine then_normal ?_
      refine al_round ?_
      refine aw_p 1007 (
        .a 1 4 <| .nil _ _) ?_
      refine aw_sq 2014 2015 ?_
      refine aw_fl 4029 ?_
      refine aw_ex 0 ?_
      refine then_exit ?_
      refine then_exit ?_
      refine block_exit ?_
      refine then_normal ?_
      refine aw_w [(5, .slice (some ⟨1, 0, none⟩) 1 0), (6, .pointer (some ⟨3, 0, none⟩)), (7, .int .i64 1), (8, .bool false)] [(0, ⟨(xs.map i64v), 3, false, 1⟩), (1, ⟨[.slice (some ⟨2, 0, none⟩) R1.length 0], 30, true, 1⟩), (2, ⟨(R1.flatMap ptc), 28, true, 2⟩), (3, ⟨[.int .i64 px, .int .i64 py], 28, true, 2⟩)] ?_ (by kernel_rfl) (by kernel_rfl) (hc := (by simp [closedB, valsB, valB, List.all_eq_true, List.mem_flatMap, List.mem_range, List.mem_map, i64v, ptc, flat1]; try (intros; simp [valsB, valB, flat1]); try decide))
      exact K (1, false) ⟨by simp [Sp.cnt1, h4p], by simp [h4p]⟩
    · have h4p : ¬ (((Sp.hasF R1 (Sp.lim 1048576 px) (Sp.lim 1048576 py) 0 (-1)) = 1)) := by first | (simpa using h4) | (have h4q := h4; simp at h4q; omega) | (have h4q := bx2 h4; simp at h4q; omega)
      refine aw_p 515967 (
        .a 2 4 <| .nil _ _) ?_
      refine aw_cd 1031934 1031935 ((Sp.hasF R1 (Sp.lim 1048576 px) (Sp.lim 1048576 py) 0 (-1)) == 0) (fun h5 => ?_) (fun h5 => ?_)
      · have h5p : (((Sp.hasF R1 (Sp.lim 1048576 px) (Sp.lim 1048576 py) 0 (-1)) = 0)) := by first | (simpa using h5) | (have h5q := h5; simp at h5q; omega) | (have h5q := bx1 h5; simp at h5q; omega)
        refine aw_p1 (
          .a 1 4 <| .nil _ _) ?_
        refine block_normal ?_
        refine block_normal ?_
        refine then_normal ?_
        refine aw_p1 (
          .a 2 4 <| .nil _ _) ?_
        refine then_normal ?_
        refine al_round ?_
        refine aw_p 1007 (
          .a 1 4 <| .nil _ _) ?_
        refine aw_sq 2014 2015 ?_
        refine aw_fl 4029 ?_
        refine aw_ex 0 ?_
        refine then_exit ?_
        refine then_exit ?_
        refine block_exit ?_
        refine then_normal ?_
        refine aw_w [(5, .slice (some ⟨1, 0, none⟩) 1 0), (6, .pointer (some ⟨3, 0, none⟩)), (7, .int .i64 0), (8, .bool true)] [(0, ⟨(xs.map i64v), 3, false, 1⟩), (1, ⟨[.slice (some ⟨2, 0, none⟩) R1.length 0], 30, true, 1⟩), (2, ⟨(R1.flatMap ptc), 28, true, 2⟩), (3, ⟨[.int .i64 px, .int .i64 py], 28, true, 2⟩)] ?_ (by kernel_rfl) (by kernel_rfl) (hc := (by simp [closedB, valsB, valB, List.all_eq_true, List.mem_flatMap, List.mem_range, List.mem_map, i64v, ptc, flat1]; try (intros; simp [valsB, valB, flat1]); try decide))
        exact K (0, true) ⟨by simp [Sp.cnt1, h4p, h5p], by simp [h4p, h5p]⟩
      · have h5p : ¬ (((Sp.hasF R1 (Sp.lim 1048576 px) (Sp.lim 1048576 py) 0 (-1)) = 0)) := by first | (simpa using h5) | (have h5q := h5; simp at h5q; omega) | (have h5q := bx2 h5; simp at h5q; omega)
        refine aw_sk ?_
        refine block_normal ?_
        refine block_normal ?_
        refine then_normal ?_
        refine aw_p1 (
          .a 2 4 <| .nil _ _) ?_
        refine then_normal ?_
        refine al_round ?_
        refine aw_p 1007 (
          .a 1 4 <| .nil _ _) ?_
        refine aw_sq 2014 2015 ?_
        refine aw_fl 4029 ?_
        refine aw_ex 0 ?_
        refine then_exit ?_
        refine then_exit ?_
        refine block_exit ?_
        refine then_normal ?_
        refine aw_w [(5, .slice (some ⟨1, 0, none⟩) 1 0), (6, .pointer (some ⟨3, 0, none⟩)), (7, .int .i64 0), (8, .bool false)] [(0, ⟨(xs.map i64v), 3, false, 1⟩), (1, ⟨[.slice (some ⟨2, 0, none⟩) R1.length 0], 30, true, 1⟩), (2, ⟨(R1.flatMap ptc), 28, true, 2⟩), (3, ⟨[.int .i64 px, .int .i64 py], 28, true, 2⟩)] ?_ (by kernel_rfl) (by kernel_rfl) (hc := (by simp [closedB, valsB, valB, List.all_eq_true, List.mem_flatMap, List.mem_range, List.mem_map, i64v, ptc, flat1]; try (intros; simp [valsB, valB, flat1]); try decide))
        exact K (0, false) ⟨by simp [Sp.cnt1, h4p, h5p], by simp [h4p, h5p]⟩


end Go.Proofs.Ytndkhgfecnbmnaa.Am
