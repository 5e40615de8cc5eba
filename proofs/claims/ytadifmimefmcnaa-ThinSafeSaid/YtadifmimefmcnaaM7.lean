import Derived.Test.YtadifmimefmcnaaProg
import Derived.Test.YtadifmimefmcnaaM2
import Derived.Test.YtadifmimefmcnaaM6
import Derived.Test.YtadifmimefmcnaaM4
import Derived.Test.YtadifmimefmcnaaM5
namespace Go.Proofs.Ytadifmimefmcnaa.Am
open Go Go.Proofs
set_option maxRecDepth 100000
set_option maxHeartbeats 4000000
set_option linter.unusedVariables false
set_option linter.unusedSimpArgs false
theorem ends_0000 (x y : List (Int × Int)) (k m : Nat) (hk : 1 ≤ k ∧ k < x.length) (hm : 1 ≤ m ∧ m < y.length) (hzx : x.length ≤ 4611686018427387904) (hzy : y.length ≤ 4611686018427387904) (hx1 : k ≠ 1) (hx2 : k + 1 ≠ x.length) :
    AC Try.prog 104 2 ([.slice (some ⟨0, 0, none⟩) x.length 0, .int .i64 ((k : Nat) : Int), .slice (some ⟨1, 0, none⟩) y.length 0, .int .i64 ((m : Nat) : Int)]) [(0, ⟨(x.flatMap ptc), 29, false, 2⟩), (1, ⟨(y.flatMap ptc), 29, false, 2⟩)] (.bool (Sp.endsB x k y m)) [] := by
  refine ac_in Try.func104 (fun w0 W pin => ?_)
  refine aw_p 3 (
    .a 1 2 <| .nil _ _) ?_
  refine aw_sq 6 7 ?_
  refine aw_p 13 (
    .a 2 2 <|
    .p (does_callB (x := .func 130) (ars := #[.tmp 13, .tmp 14]) (ats := #[24, 3]) (g := 130) (vs := [.slice (some ⟨0, 0, none⟩) x.length 0, .int .i64 ((k : Nat) : Int)]) (m := 1) (r := 0) (firsts := #[]) (caps := #[]) (args0 := [.slice (some ⟨0, 0, none⟩) x.length 0, .int .i64 ((k : Nat) : Int)]) (pre0 := [(0, ⟨(x.flatMap ptc), 29, false, 2⟩)]) (post0 := []) (pre := [(0, ⟨(x.flatMap ptc), 29, false, 2⟩)]) (post := []) (v0 := .slice none 0 0) (v := .slice none 0 0) [0] (by kernel_rfl) (by kernel_rfl) (by kernel_rfl) (by kernel_rfl) (outer_00 x k hk hzx hx1 hx2) (.cons (.slice _ _ _ _ _ (by decide)) (.cons (.flatB (by kernel_rfl)) .nil)) ⟨rfl, ⟨rfl, rfl, rfl, (.flats (flats_pair _))⟩, trivial⟩ (by kernel_rfl) (by kernel_rfl) (by kernel_rfl) trivial (.flatB (by kernel_rfl))) <|
    .a 2 2 <| .nil _ _) ?_
  refine aw_bl 0 27 ?_
  refine aw_lp 55 ?_
  refine al_round ?_
  refine aw_p 111 (
    .a 1 2 <| .nil _ _) ?_
  refine aw_sq 222 223 ?_
  refine aw_fl 445 ?_
  refine aw_ex 0 ?_
  refine then_exit ?_
  refine then_exit ?_
  refine block_exit ?_
  refine then_normal ?_
  refine aw_p 15 (
    .a 1 2 <| .nil _ _) ?_
  refine aw_rt ?_
  exact en_ret [.bool false] (show (.bool false : Value) = (.bool (Sp.endsB x k y m)) from (congrArg Value.bool (show false = (Sp.endsB x k y m) from by (rw [Sp.endsB_of (Sp.outr_00 hx1 hx2) (rfl : Sp.outr y m = Sp.outr y m)]; clear hx1 hx2 hk hm ; simp only [List.any_cons, List.any_nil, Sp.eqTo, *, Bool.or_false, Bool.false_or, Bool.or_true, Bool.true_or]))))
theorem ends_1000 (x y : List (Int × Int)) (k m : Nat) (hk : 1 ≤ k ∧ k < x.length) (hm : 1 ≤ m ∧ m < y.length) (hzx : x.length ≤ 4611686018427387904) (hzy : y.length ≤ 4611686018427387904) (hx1 : k = 1) (hx2 : k + 1 ≠ x.length) (hy1 : m ≠ 1) (hy2 : m + 1 ≠ y.length) :
    AC Try.prog 104 2 ([.slice (some ⟨0, 0, none⟩) x.length 0, .int .i64 ((k : Nat) : Int), .slice (some ⟨1, 0, none⟩) y.length 0, .int .i64 ((m : Nat) : Int)]) [(0, ⟨(x.flatMap ptc), 29, false, 2⟩), (1, ⟨(y.flatMap ptc), 29, false, 2⟩)] (.bool (Sp.endsB x k y m)) [] := by
  refine ac_in Try.func104 (fun w0 W pin => ?_)
  refine aw_p 3 (
    .a 1 2 <| .nil _ _) ?_
  refine aw_sq 6 7 ?_
  refine aw_p 13 (
    .a 2 2 <|
    .p (does_callB (x := .func 130) (ars := #[.tmp 13, .tmp 14]) (ats := #[24, 3]) (g := 130) (vs := [.slice (some ⟨0, 0, none⟩) x.length 0, .int .i64 ((k : Nat) : Int)]) (m := 1) (r := 1) (firsts := #[]) (caps := #[]) (args0 := [.slice (some ⟨0, 0, none⟩) x.length 0, .int .i64 ((k : Nat) : Int)]) (pre0 := [(0, ⟨(x.flatMap ptc), 29, false, 2⟩)]) (post0 := [(1, ⟨[.int .i64 ((x.getD 0 (0, 0)).1), .int .i64 ((x.getD 0 (0, 0)).2)], 29, true, 2⟩)]) (pre := [(0, ⟨(x.flatMap ptc), 29, false, 2⟩)]) (post := [(2, ⟨[.int .i64 ((x.getD 0 (0, 0)).1), .int .i64 ((x.getD 0 (0, 0)).2)], 29, true, 2⟩)]) (v0 := .slice (some ⟨1, 0, none⟩) 1 0) (v := .slice (some ⟨2, 0, none⟩) 1 0) [0, 2] (by kernel_rfl) (by kernel_rfl) (by kernel_rfl) (by kernel_rfl) (outer_10 x k hk hzx hx1 hx2) (.cons (.slice _ _ _ _ _ (by decide)) (.cons (.flatB (by kernel_rfl)) .nil)) ⟨rfl, ⟨rfl, rfl, rfl, (.flats (flats_pair _))⟩, trivial⟩ (by kernel_rfl) (by kernel_rfl) (by kernel_rfl) ⟨rfl, ⟨rfl, rfl, rfl, (.flats (by kernel_rfl))⟩, trivial⟩ (.slice _ _ _ _ _ (by decide))) <|
    .a 2 3 <| .nil _ _) ?_
  refine aw_bl 0 27 ?_
  refine aw_lp 55 ?_
  refine al_round ?_
  refine aw_p 111 (
    .a 1 3 <| .nil _ _) ?_
  refine aw_sq 222 223 ?_
  refine aw_tr 444 ?_
  refine aw_sk ?_
  refine then_normal ?_
  refine aw_sq 446 447 ?_
  refine aw_bl 1 893 ?_
  refine aw_p 1787 (
    .a 4 3 <| .nil _ _) ?_
  refine aw_p 3575 (
    .a 2 4 <|
    .p (does_callB (x := .func 130) (ars := #[.tmp 21, .tmp 22]) (ats := #[24, 3]) (g := 130) (vs := [.slice (some ⟨1, 0, none⟩) y.length 0, .int .i64 ((m : Nat) : Int)]) (m := 1) (r := 0) (firsts := #[]) (caps := #[]) (args0 := [.slice (some ⟨0, 0, none⟩) y.length 0, .int .i64 ((m : Nat) : Int)]) (pre0 := [(0, ⟨(y.flatMap ptc), 29, false, 2⟩)]) (post0 := []) (pre := [(1, ⟨(y.flatMap ptc), 29, false, 2⟩)]) (post := []) (v0 := .slice none 0 0) (v := .slice none 0 0) [1] (by kernel_rfl) (by kernel_rfl) (by kernel_rfl) (by kernel_rfl) (outer_00 y m hm hzy hy1 hy2) (.cons (.slice _ _ _ _ _ (by decide)) (.cons (.flatB (by kernel_rfl)) .nil)) ⟨rfl, ⟨rfl, rfl, rfl, (.flats (flats_pair _))⟩, trivial⟩ (by kernel_rfl) (by kernel_rfl) (by kernel_rfl) trivial (.flatB (by kernel_rfl))) <|
    .a 2 4 <| .nil _ _) ?_
  refine aw_bl 2 7151 ?_
  refine aw_lp 14303 ?_
  refine al_round ?_
  refine aw_p 28607 (
    .a 1 4 <| .nil _ _) ?_
  refine aw_sq 57214 57215 ?_
  refine aw_fl 114429 ?_
  refine aw_ex 2 ?_
  refine then_exit ?_
  refine then_exit ?_
  refine block_exit ?_
  refine block_normal ?_
  refine then_normal ?_
  refine aw_p1 (
    .a 2 4 <| .nil _ _) ?_
  refine then_normal ?_
  refine al_round ?_
  refine aw_p 111 (
    .a 1 4 <| .nil _ _) ?_
  refine aw_sq 222 223 ?_
  refine aw_fl 445 ?_
  refine aw_ex 0 ?_
  refine then_exit ?_
  refine then_exit ?_
  refine block_exit ?_
  refine then_normal ?_
  refine aw_p 15 (
    .a 1 4 <| .nil _ _) ?_
  refine aw_rt ?_
  exact en_ret [.bool false] (show (.bool false : Value) = (.bool (Sp.endsB x k y m)) from (congrArg Value.bool (show false = (Sp.endsB x k y m) from by (rw [Sp.endsB_of (Sp.outr_10 hx1 hx2) (Sp.outr_00 hy1 hy2)]; clear hx1 hx2 hk hm hy1 hy2; simp only [List.any_cons, List.any_nil, Sp.eqTo, *, Bool.or_false, Bool.false_or, Bool.or_true, Bool.true_or]))))
theorem ends_1001 (x y : List (Int × Int)) (k m : Nat) (hk : 1 ≤ k ∧ k < x.length) (hm : 1 ≤ m ∧ m < y.length) (hzx : x.length ≤ 4611686018427387904) (hzy : y.length ≤ 4611686018427387904) (hx1 : k = 1) (hx2 : k + 1 ≠ x.length) (hy1 : m ≠ 1) (hy2 : m + 1 = y.length) :
    AC Try.prog 104 2 ([.slice (some ⟨0, 0, none⟩) x.length 0, .int .i64 ((k : Nat) : Int), .slice (some ⟨1, 0, none⟩) y.length 0, .int .i64 ((m : Nat) : Int)]) [(0, ⟨(x.flatMap ptc), 29, false, 2⟩), (1, ⟨(y.flatMap ptc), 29, false, 2⟩)] (.bool (Sp.endsB x k y m)) [] := by
  refine ac_in Try.func104 (fun w0 W pin => ?_)
  refine aw_p 3 (
    .a 1 2 <| .nil _ _) ?_
  refine aw_sq 6 7 ?_
  refine aw_p 13 (
    .a 2 2 <|
    .p (does_callB (x := .func 130) (ars := #[.tmp 13, .tmp 14]) (ats := #[24, 3]) (g := 130) (vs := [.slice (some ⟨0, 0, none⟩) x.length 0, .int .i64 ((k : Nat) : Int)]) (m := 1) (r := 1) (firsts := #[]) (caps := #[]) (args0 := [.slice (some ⟨0, 0, none⟩) x.length 0, .int .i64 ((k : Nat) : Int)]) (pre0 := [(0, ⟨(x.flatMap ptc), 29, false, 2⟩)]) (post0 := [(1, ⟨[.int .i64 ((x.getD 0 (0, 0)).1), .int .i64 ((x.getD 0 (0, 0)).2)], 29, true, 2⟩)]) (pre := [(0, ⟨(x.flatMap ptc), 29, false, 2⟩)]) (post := [(2, ⟨[.int .i64 ((x.getD 0 (0, 0)).1), .int .i64 ((x.getD 0 (0, 0)).2)], 29, true, 2⟩)]) (v0 := .slice (some ⟨1, 0, none⟩) 1 0) (v := .slice (some ⟨2, 0, none⟩) 1 0) [0, 2] (by kernel_rfl) (by kernel_rfl) (by kernel_rfl) (by kernel_rfl) (outer_10 x k hk hzx hx1 hx2) (.cons (.slice _ _ _ _ _ (by decide)) (.cons (.flatB (by kernel_rfl)) .nil)) ⟨rfl, ⟨rfl, rfl, rfl, (.flats (flats_pair _))⟩, trivial⟩ (by kernel_rfl) (by kernel_rfl) (by kernel_rfl) ⟨rfl, ⟨rfl, rfl, rfl, (.flats (by kernel_rfl))⟩, trivial⟩ (.slice _ _ _ _ _ (by decide))) <|
    .a 2 3 <| .nil _ _) ?_
  refine aw_bl 0 27 ?_
  refine aw_lp 55 ?_
  refine al_round ?_
  refine aw_p 111 (
    .a 1 3 <| .nil _ _) ?_
  refine aw_sq 222 223 ?_
  refine aw_tr 444 ?_
  refine aw_sk ?_
  refine then_normal ?_
  refine aw_sq 446 447 ?_
  refine aw_bl 1 893 ?_
  refine aw_p 1787 (
    .a 4 3 <| .nil _ _) ?_
  refine aw_p 3575 (
    .a 2 4 <|
    .p (does_callB (x := .func 130) (ars := #[.tmp 21, .tmp 22]) (ats := #[24, 3]) (g := 130) (vs := [.slice (some ⟨1, 0, none⟩) y.length 0, .int .i64 ((m : Nat) : Int)]) (m := 1) (r := 1) (firsts := #[]) (caps := #[]) (args0 := [.slice (some ⟨0, 0, none⟩) y.length 0, .int .i64 ((m : Nat) : Int)]) (pre0 := [(0, ⟨(y.flatMap ptc), 29, false, 2⟩)]) (post0 := [(1, ⟨[.int .i64 ((y.getD m (0, 0)).1), .int .i64 ((y.getD m (0, 0)).2)], 29, true, 2⟩)]) (pre := [(1, ⟨(y.flatMap ptc), 29, false, 2⟩)]) (post := [(4, ⟨[.int .i64 ((y.getD m (0, 0)).1), .int .i64 ((y.getD m (0, 0)).2)], 29, true, 2⟩)]) (v0 := .slice (some ⟨1, 0, none⟩) 1 0) (v := .slice (some ⟨4, 0, none⟩) 1 0) [1, 4] (by kernel_rfl) (by kernel_rfl) (by kernel_rfl) (by kernel_rfl) (outer_01 y m hm hzy hy1 hy2) (.cons (.slice _ _ _ _ _ (by decide)) (.cons (.flatB (by kernel_rfl)) .nil)) ⟨rfl, ⟨rfl, rfl, rfl, (.flats (flats_pair _))⟩, trivial⟩ (by kernel_rfl) (by kernel_rfl) (by kernel_rfl) ⟨rfl, ⟨rfl, rfl, rfl, (.flats (by kernel_rfl))⟩, trivial⟩ (.slice _ _ _ _ _ (by decide))) <|
    .a 2 5 <| .nil _ _) ?_
  refine aw_bl 2 7151 ?_
  refine aw_lp 14303 ?_
  refine al_round ?_
  refine aw_p 28607 (
    .a 1 5 <| .nil _ _) ?_
  refine aw_sq 57214 57215 ?_
  refine aw_tr 114428 ?_
  refine aw_sk ?_
  refine then_normal ?_
  refine aw_sq 114430 114431 ?_
  refine aw_bl 3 228861 ?_
  refine aw_p 457723 (
    .a 4 5 <| .nil _ _) ?_
  refine aw_p 915447 (
    .a 2 6 <| .p (does_e ((((x.getD 0 (0, 0)).1) == ((y.getD m (0, 0)).1)) && ((((x.getD 0 (0, 0)).2) == ((y.getD m (0, 0)).2)) && true)) (rfl)) <| .nil _ _) ?_
  refine aw_cd 1830894 1830895 ((((x.getD 0 (0, 0)).1) == ((y.getD m (0, 0)).1)) && ((((x.getD 0 (0, 0)).2) == ((y.getD m (0, 0)).2)) && true)) (fun h1 => ?_) (fun h1 => ?_)
  · refine aw_p 3661789 (
      .a 1 6 <| .nil _ _) ?_
    refine aw_rt ?_
    refine block_ret ?_
    refine then_ret ?_
    refine then_ret ?_
    refine block_ret ?_
    refine block_ret ?_
    refine then_ret ?_
    refine then_ret ?_
    refine block_ret ?_
    refine then_ret ?_
    exact en_ret [.bool true] (show (.bool true : Value) = (.bool (Sp.endsB x k y m)) from (congrArg Value.bool (show true = (Sp.endsB x k y m) from by (rw [Sp.endsB_of (Sp.outr_10 hx1 hx2) (Sp.outr_01 hy1 hy2)]; clear hx1 hx2 hk hm hy1 hy2; simp only [List.any_cons, List.any_nil, Sp.eqTo, *, Bool.or_false, Bool.false_or, Bool.or_true, Bool.true_or]))))
  · refine aw_sk ?_
    refine block_normal ?_
    refine then_normal ?_
    refine aw_p1 (
      .a 2 6 <| .nil _ _) ?_
    refine then_normal ?_
    refine al_round ?_
    refine aw_p 28607 (
      .a 1 6 <| .nil _ _) ?_
    refine aw_sq 57214 57215 ?_
    refine aw_fl 114429 ?_
    refine aw_ex 2 ?_
    refine then_exit ?_
    refine then_exit ?_
    refine block_exit ?_
    refine block_normal ?_
    refine then_normal ?_
    refine aw_p1 (
      .a 2 6 <| .nil _ _) ?_
    refine then_normal ?_
    refine al_round ?_
    refine aw_p 111 (
      .a 1 6 <| .nil _ _) ?_
    refine aw_sq 222 223 ?_
    refine aw_fl 445 ?_
    refine aw_ex 0 ?_
    refine then_exit ?_
    refine then_exit ?_
    refine block_exit ?_
    refine then_normal ?_
    refine aw_p 15 (
      .a 1 6 <| .nil _ _) ?_
    refine aw_rt ?_
    exact en_ret [.bool false] (show (.bool false : Value) = (.bool (Sp.endsB x k y m)) from (congrArg Value.bool (show false = (Sp.endsB x k y m) from by (rw [Sp.endsB_of (Sp.outr_10 hx1 hx2) (Sp.outr_01 hy1 hy2)]; clear hx1 hx2 hk hm hy1 hy2; simp only [List.any_cons, List.any_nil, Sp.eqTo, *, Bool.or_false, Bool.false_or, Bool.or_true, Bool.true_or]))))
theorem ends_1010 (x y : List (Int × Int)) (k m : Nat) (hk : 1 ≤ k ∧ k < x.length) (hm : 1 ≤ m ∧ m < y.length) (hzx : x.length ≤ 4611686018427387904) (hzy : y.length ≤ 4611686018427387904) (hx1 : k = 1) (hx2 : k + 1 ≠ x.length) (hy1 : m = 1) (hy2 : m + 1 ≠ y.length) :
    AC Try.prog 104 2 ([.slice (some ⟨0, 0, none⟩) x.length 0, .int .i64 ((k : Nat) : Int), .slice (some ⟨1, 0, none⟩) y.length 0, .int .i64 ((m : Nat) : Int)]) [(0, ⟨(x.flatMap ptc), 29, false, 2⟩), (1, ⟨(y.flatMap ptc), 29, false, 2⟩)] (.bool (Sp.endsB x k y m)) [] := by
  refine ac_in Try.func104 (fun w0 W pin => ?_)
  refine aw_p 3 (
    .a 1 2 <| .nil _ _) ?_
  refine aw_sq 6 7 ?_
  refine aw_p 13 (
    .a 2 2 <|
    .p (does_callB (x := .func 130) (ars := #[.tmp 13, .tmp 14]) (ats := #[24, 3]) (g := 130) (vs := [.slice (some ⟨0, 0, none⟩) x.length 0, .int .i64 ((k : Nat) : Int)]) (m := 1) (r := 1) (firsts := #[]) (caps := #[]) (args0 := [.slice (some ⟨0, 0, none⟩) x.length 0, .int .i64 ((k : Nat) : Int)]) (pre0 := [(0, ⟨(x.flatMap ptc), 29, false, 2⟩)]) (post0 := [(1, ⟨[.int .i64 ((x.getD 0 (0, 0)).1), .int .i64 ((x.getD 0 (0, 0)).2)], 29, true, 2⟩)]) (pre := [(0, ⟨(x.flatMap ptc), 29, false, 2⟩)]) (post := [(2, ⟨[.int .i64 ((x.getD 0 (0, 0)).1), .int .i64 ((x.getD 0 (0, 0)).2)], 29, true, 2⟩)]) (v0 := .slice (some ⟨1, 0, none⟩) 1 0) (v := .slice (some ⟨2, 0, none⟩) 1 0) [0, 2] (by kernel_rfl) (by kernel_rfl) (by kernel_rfl) (by kernel_rfl) (outer_10 x k hk hzx hx1 hx2) (.cons (.slice _ _ _ _ _ (by decide)) (.cons (.flatB (by kernel_rfl)) .nil)) ⟨rfl, ⟨rfl, rfl, rfl, (.flats (flats_pair _))⟩, trivial⟩ (by kernel_rfl) (by kernel_rfl) (by kernel_rfl) ⟨rfl, ⟨rfl, rfl, rfl, (.flats (by kernel_rfl))⟩, trivial⟩ (.slice _ _ _ _ _ (by decide))) <|
    .a 2 3 <| .nil _ _) ?_
  refine aw_bl 0 27 ?_
  refine aw_lp 55 ?_
  refine al_round ?_
  refine aw_p 111 (
    .a 1 3 <| .nil _ _) ?_
  refine aw_sq 222 223 ?_
  refine aw_tr 444 ?_
  refine aw_sk ?_
  refine then_normal ?_
  refine aw_sq 446 447 ?_
  refine aw_bl 1 893 ?_
  refine aw_p 1787 (
    .a 4 3 <| .nil _ _) ?_
  refine aw_p 3575 (
    .a 2 4 <|
    .p (does_callB (x := .func 130) (ars := #[.tmp 21, .tmp 22]) (ats := #[24, 3]) (g := 130) (vs := [.slice (some ⟨1, 0, none⟩) y.length 0, .int .i64 ((m : Nat) : Int)]) (m := 1) (r := 1) (firsts := #[]) (caps := #[]) (args0 := [.slice (some ⟨0, 0, none⟩) y.length 0, .int .i64 ((m : Nat) : Int)]) (pre0 := [(0, ⟨(y.flatMap ptc), 29, false, 2⟩)]) (post0 := [(1, ⟨[.int .i64 ((y.getD 0 (0, 0)).1), .int .i64 ((y.getD 0 (0, 0)).2)], 29, true, 2⟩)]) (pre := [(1, ⟨(y.flatMap ptc), 29, false, 2⟩)]) (post := [(4, ⟨[.int .i64 ((y.getD 0 (0, 0)).1), .int .i64 ((y.getD 0 (0, 0)).2)], 29, true, 2⟩)]) (v0 := .slice (some ⟨1, 0, none⟩) 1 0) (v := .slice (some ⟨4, 0, none⟩) 1 0) [1, 4] (by kernel_rfl) (by kernel_rfl) (by kernel_rfl) (by kernel_rfl) (outer_10 y m hm hzy hy1 hy2) (.cons (.slice _ _ _ _ _ (by decide)) (.cons (.flatB (by kernel_rfl)) .nil)) ⟨rfl, ⟨rfl, rfl, rfl, (.flats (flats_pair _))⟩, trivial⟩ (by kernel_rfl) (by kernel_rfl) (by kernel_rfl) ⟨rfl, ⟨rfl, rfl, rfl, (.flats (by kernel_rfl))⟩, trivial⟩ (.slice _ _ _ _ _ (by decide))) <|
    .a 2 5 <| .nil _ _) ?_
  refine aw_bl 2 7151 ?_
  refine aw_lp 14303 ?_
  refine al_round ?_
  refine aw_p 28607 (
    .a 1 5 <| .nil _ _) ?_
  refine aw_sq 57214 57215 ?_
  refine aw_tr 114428 ?_
  refine aw_sk ?_
  refine then_normal ?_
  refine aw_sq 114430 114431 ?_
  refine aw_bl 3 228861 ?_
  refine aw_p 457723 (
    .a 4 5 <| .nil _ _) ?_
  refine aw_p 915447 (
    .a 2 6 <| .p (does_e ((((x.getD 0 (0, 0)).1) == ((y.getD 0 (0, 0)).1)) && ((((x.getD 0 (0, 0)).2) == ((y.getD 0 (0, 0)).2)) && true)) (rfl)) <| .nil _ _) ?_
  refine aw_cd 1830894 1830895 ((((x.getD 0 (0, 0)).1) == ((y.getD 0 (0, 0)).1)) && ((((x.getD 0 (0, 0)).2) == ((y.getD 0 (0, 0)).2)) && true)) (fun h1 => ?_) (fun h1 => ?_)
  · refine aw_p 3661789 (
      .a 1 6 <| .nil _ _) ?_
    refine aw_rt ?_
    refine block_ret ?_
    refine then_ret ?_
    refine then_ret ?_
    refine block_ret ?_
    refine block_ret ?_
    refine then_ret ?_
    refine then_ret ?_
    refine block_ret ?_
    refine then_ret ?_
    exact en_ret [.bool true] (show (.bool true : Value) = (.bool (Sp.endsB x k y m)) from (congrArg Value.bool (show true = (Sp.endsB x k y m) from by (rw [Sp.endsB_of (Sp.outr_10 hx1 hx2) (Sp.outr_10 hy1 hy2)]; clear hx1 hx2 hk hm hy1 hy2; simp only [List.any_cons, List.any_nil, Sp.eqTo, *, Bool.or_false, Bool.false_or, Bool.or_true, Bool.true_or]))))
  · refine aw_sk ?_
    refine block_normal ?_
    refine then_normal ?_
    refine aw_p1 (
      .a 2 6 <| .nil _ _) ?_
    refine then_normal ?_
    refine al_round ?_
    refine aw_p 28607 (
      .a 1 6 <| .nil _ _) ?_
    refine aw_sq 57214 57215 ?_
    refine aw_fl 114429 ?_
    refine aw_ex 2 ?_
    refine then_exit ?_
    refine then_exit ?_
    refine block_exit ?_
    refine block_normal ?_
    refine then_normal ?_
    refine aw_p1 (
      .a 2 6 <| .nil _ _) ?_
    refine then_normal ?_
    refine al_round ?_
    refine aw_p 111 (
      .a 1 6 <| .nil _ _) ?_
    refine aw_sq 222 223 ?_
    refine aw_fl 445 ?_
    refine aw_ex 0 ?_
    refine then_exit ?_
    refine then_exit ?_
    refine block_exit ?_
    refine then_normal ?_
    refine aw_p 15 (
      .a 1 6 <| .nil _ _) ?_
    refine aw_rt ?_
    exact en_ret [.bool false] (show (.bool false : Value) = (.bool (Sp.endsB x k y m)) from (congrArg Value.bool (show false = (Sp.endsB x k y m) from by (rw [Sp.endsB_of (Sp.outr_10 hx1 hx2) (Sp.outr_10 hy1 hy2)]; clear hx1 hx2 hk hm hy1 hy2; simp only [List.any_cons, List.any_nil, Sp.eqTo, *, Bool.or_false, Bool.false_or, Bool.or_true, Bool.true_or]))))
theorem ends_1011 (x y : List (Int × Int)) (k m : Nat) (hk : 1 ≤ k ∧ k < x.length) (hm : 1 ≤ m ∧ m < y.length) (hzx : x.length ≤ 4611686018427387904) (hzy : y.length ≤ 4611686018427387904) (hx1 : k = 1) (hx2 : k + 1 ≠ x.length) (hy1 : m = 1) (hy2 : m + 1 = y.length) :
    AC Try.prog 104 2 ([.slice (some ⟨0, 0, none⟩) x.length 0, .int .i64 ((k : Nat) : Int), .slice (some ⟨1, 0, none⟩) y.length 0, .int .i64 ((m : Nat) : Int)]) [(0, ⟨(x.flatMap ptc), 29, false, 2⟩), (1, ⟨(y.flatMap ptc), 29, false, 2⟩)] (.bool (Sp.endsB x k y m)) [] := by
  refine ac_in Try.func104 (fun w0 W pin => ?_)
  refine aw_p 3 (
    .a 1 2 <| .nil _ _) ?_
  refine aw_sq 6 7 ?_
  refine aw_p 13 (
    .a 2 2 <|
    .p (does_callB (x := .func 130) (ars := #[.tmp 13, .tmp 14]) (ats := #[24, 3]) (g := 130) (vs := [.slice (some ⟨0, 0, none⟩) x.length 0, .int .i64 ((k : Nat) : Int)]) (m := 1) (r := 1) (firsts := #[]) (caps := #[]) (args0 := [.slice (some ⟨0, 0, none⟩) x.length 0, .int .i64 ((k : Nat) : Int)]) (pre0 := [(0, ⟨(x.flatMap ptc), 29, false, 2⟩)]) (post0 := [(1, ⟨[.int .i64 ((x.getD 0 (0, 0)).1), .int .i64 ((x.getD 0 (0, 0)).2)], 29, true, 2⟩)]) (pre := [(0, ⟨(x.flatMap ptc), 29, false, 2⟩)]) (post := [(2, ⟨[.int .i64 ((x.getD 0 (0, 0)).1), .int .i64 ((x.getD 0 (0, 0)).2)], 29, true, 2⟩)]) (v0 := .slice (some ⟨1, 0, none⟩) 1 0) (v := .slice (some ⟨2, 0, none⟩) 1 0) [0, 2] (by kernel_rfl) (by kernel_rfl) (by kernel_rfl) (by kernel_rfl) (outer_10 x k hk hzx hx1 hx2) (.cons (.slice _ _ _ _ _ (by decide)) (.cons (.flatB (by kernel_rfl)) .nil)) ⟨rfl, ⟨rfl, rfl, rfl, (.flats (flats_pair _))⟩, trivial⟩ (by kernel_rfl) (by kernel_rfl) (by kernel_rfl) ⟨rfl, ⟨rfl, rfl, rfl, (.flats (by kernel_rfl))⟩, trivial⟩ (.slice _ _ _ _ _ (by decide))) <|
    .a 2 3 <| .nil _ _) ?_
  refine aw_bl 0 27 ?_
  refine aw_lp 55 ?_
  refine al_round ?_
  refine aw_p 111 (
    .a 1 3 <| .nil _ _) ?_
  refine aw_sq 222 223 ?_
  refine aw_tr 444 ?_
  refine aw_sk ?_
  refine then_normal ?_
  refine aw_sq 446 447 ?_
  refine aw_bl 1 893 ?_
  refine aw_p 1787 (
    .a 4 3 <| .nil _ _) ?_
  refine aw_p 3575 (
    .a 2 4 <|
    .p (does_callB (x := .func 130) (ars := #[.tmp 21, .tmp 22]) (ats := #[24, 3]) (g := 130) (vs := [.slice (some ⟨1, 0, none⟩) y.length 0, .int .i64 ((m : Nat) : Int)]) (m := 1) (r := 1) (firsts := #[]) (caps := #[]) (args0 := [.slice (some ⟨0, 0, none⟩) y.length 0, .int .i64 ((m : Nat) : Int)]) (pre0 := [(0, ⟨(y.flatMap ptc), 29, false, 2⟩)]) (post0 := [(1, ⟨[.int .i64 ((y.getD 0 (0, 0)).1), .int .i64 ((y.getD 0 (0, 0)).2), .int .i64 ((y.getD m (0, 0)).1), .int .i64 ((y.getD m (0, 0)).2)], 29, true, 2⟩)]) (pre := [(1, ⟨(y.flatMap ptc), 29, false, 2⟩)]) (post := [(4, ⟨[.int .i64 ((y.getD 0 (0, 0)).1), .int .i64 ((y.getD 0 (0, 0)).2), .int .i64 ((y.getD m (0, 0)).1), .int .i64 ((y.getD m (0, 0)).2)], 29, true, 2⟩)]) (v0 := .slice (some ⟨1, 0, none⟩) 2 0) (v := .slice (some ⟨4, 0, none⟩) 2 0) [1, 4] (by kernel_rfl) (by kernel_rfl) (by kernel_rfl) (by kernel_rfl) (outer_11 y m hm hzy hy1 hy2) (.cons (.slice _ _ _ _ _ (by decide)) (.cons (.flatB (by kernel_rfl)) .nil)) ⟨rfl, ⟨rfl, rfl, rfl, (.flats (flats_pair _))⟩, trivial⟩ (by kernel_rfl) (by kernel_rfl) (by kernel_rfl) ⟨rfl, ⟨rfl, rfl, rfl, (.flats (by kernel_rfl))⟩, trivial⟩ (.slice _ _ _ _ _ (by decide))) <|
    .a 2 5 <| .nil _ _) ?_
  refine aw_bl 2 7151 ?_
  refine aw_lp 14303 ?_
  refine al_round ?_
  refine aw_p 28607 (
    .a 1 5 <| .nil _ _) ?_
  refine aw_sq 57214 57215 ?_
  refine aw_tr 114428 ?_
  refine aw_sk ?_
  refine then_normal ?_
  refine aw_sq 114430 114431 ?_
  refine aw_bl 3 228861 ?_
  refine aw_p 457723 (
    .a 4 5 <| .nil _ _) ?_
  refine aw_p 915447 (
    .a 2 6 <| .p (does_e ((((x.getD 0 (0, 0)).1) == ((y.getD 0 (0, 0)).1)) && ((((x.getD 0 (0, 0)).2) == ((y.getD 0 (0, 0)).2)) && true)) (rfl)) <| .nil _ _) ?_
  refine aw_cd 1830894 1830895 ((((x.getD 0 (0, 0)).1) == ((y.getD 0 (0, 0)).1)) && ((((x.getD 0 (0, 0)).2) == ((y.getD 0 (0, 0)).2)) && true)) (fun h1 => ?_) (fun h1 => ?_)
  · refine aw_p 3661789 (
      .a 1 6 <| .nil _ _) ?_
    refine aw_rt ?_
    refine block_ret ?_
    refine then_ret ?_
    refine then_ret ?_
    refine block_ret ?_
    refine block_ret ?_
    refine then_ret ?_
    refine then_ret ?_
    refine block_ret ?_
    refine then_ret ?_
    exact en_ret [.bool true] (show (.bool true : Value) = (.bool (Sp.endsB x k y m)) from (congrArg Value.bool (show true = (Sp.endsB x k y m) from by (rw [Sp.endsB_of (Sp.outr_10 hx1 hx2) (Sp.outr_11 hy1 hy2)]; clear hx1 hx2 hk hm hy1 hy2; simp only [List.any_cons, List.any_nil, Sp.eqTo, *, Bool.or_false, Bool.false_or, Bool.or_true, Bool.true_or]))))
  · refine aw_sk ?_
    refine block_normal ?_
    refine then_normal ?_
    refine aw_p1 (
      .a 2 6 <| .nil _ _) ?_
    refine then_normal ?_
    refine al_round ?_
    refine aw_p 28607 (
      .a 1 6 <| .nil _ _) ?_
    refine aw_sq 57214 57215 ?_
    refine aw_tr 114428 ?_
    refine aw_sk ?_
    refine then_normal ?_
    refine aw_sq 114430 114431 ?_
    refine aw_bl 3 228861 ?_
    refine aw_p 457723 (
      .a 4 6 <| .nil _ _) ?_
    refine aw_p 915447 (
      .a 2 7 <| .p (does_e ((((x.getD 0 (0, 0)).1) == ((y.getD m (0, 0)).1)) && ((((x.getD 0 (0, 0)).2) == ((y.getD m (0, 0)).2)) && true)) (rfl)) <| .nil _ _) ?_
    refine aw_cd 1830894 1830895 ((((x.getD 0 (0, 0)).1) == ((y.getD m (0, 0)).1)) && ((((x.getD 0 (0, 0)).2) == ((y.getD m (0, 0)).2)) && true)) (fun h2 => ?_) (fun h2 => ?_)
    · refine aw_p 3661789 (
        .a 1 7 <| .nil _ _) ?_
      refine aw_rt ?_
      refine block_ret ?_
      refine then_ret ?_
      refine then_ret ?_
      refine block_ret ?_
      refine block_ret ?_
      refine then_ret ?_
      refine then_ret ?_
      refine block_ret ?_
      refine then_ret ?_
      exact en_ret [.bool true] (show (.bool true : Value) = (.bool (Sp.endsB x k y m)) from (congrArg Value.bool (show true = (Sp.endsB x k y m) from by (rw [Sp.endsB_of (Sp.outr_10 hx1 hx2) (Sp.outr_11 hy1 hy2)]; clear hx1 hx2 hk hm hy1 hy2; simp only [List.any_cons, List.any_nil, Sp.eqTo, *, Bool.or_false, Bool.false_or, Bool.or_true, Bool.true_or]))))
    · refine aw_sk ?_
      refine block_normal ?_
      refine then_normal ?_
      refine aw_p1 (
        .a 2 7 <| .nil _ _) ?_
      refine then_normal ?_
      refine al_round ?_
      refine aw_p 28607 (
        .a 1 7 <| .nil _ _) ?_
      refine aw_sq 57214 57215 ?_
      refine aw_fl 114429 ?_
      refine aw_ex 2 ?_
      refine then_exit ?_
      refine then_exit ?_
      refine block_exit ?_
      refine block_normal ?_
      refine then_normal ?_
      refine aw_p1 (
        .a 2 7 <| .nil _ _) ?_
      refine then_normal ?_
      refine al_round ?_
      refine aw_p 111 (
        .a 1 7 <| .nil _ _) ?_
      refine aw_sq 222 223 ?_
      refine aw_fl 445 ?_
      refine aw_ex 0 ?_
      refine then_exit ?_
      refine then_exit ?_
      refine block_exit ?_
      refine then_normal ?_
      refine aw_p 15 (
        .a 1 7 <| .nil _ _) ?_
      refine aw_rt ?_
      exact en_ret [.bool false] (show (.bool false : Value) = (.bool (Sp.endsB x k y m)) from (congrArg Value.bool (show false = (Sp.endsB x k y m) from by (rw [Sp.endsB_of (Sp.outr_10 hx1 hx2) (Sp.outr_11 hy1 hy2)]; clear hx1 hx2 hk hm hy1 hy2; simp only [List.any_cons, List.any_nil, Sp.eqTo, *, Bool.or_false, Bool.false_or, Bool.or_true, Bool.true_or]))))
theorem ends_0100 (x y : List (Int × Int)) (k m : Nat) (hk : 1 ≤ k ∧ k < x.length) (hm : 1 ≤ m ∧ m < y.length) (hzx : x.length ≤ 4611686018427387904) (hzy : y.length ≤ 4611686018427387904) (hx1 : k ≠ 1) (hx2 : k + 1 = x.length) (hy1 : m ≠ 1) (hy2 : m + 1 ≠ y.length) :
    AC Try.prog 104 2 ([.slice (some ⟨0, 0, none⟩) x.length 0, .int .i64 ((k : Nat) : Int), .slice (some ⟨1, 0, none⟩) y.length 0, .int .i64 ((m : Nat) : Int)]) [(0, ⟨(x.flatMap ptc), 29, false, 2⟩), (1, ⟨(y.flatMap ptc), 29, false, 2⟩)] (.bool (Sp.endsB x k y m)) [] := by
  refine ac_in Try.func104 (fun w0 W pin => ?_)
  refine aw_p 3 (
    .a 1 2 <| .nil _ _) ?_
  refine aw_sq 6 7 ?_
  refine aw_p 13 (
    .a 2 2 <|
    .p (does_callB (x := .func 130) (ars := #[.tmp 13, .tmp 14]) (ats := #[24, 3]) (g := 130) (vs := [.slice (some ⟨0, 0, none⟩) x.length 0, .int .i64 ((k : Nat) : Int)]) (m := 1) (r := 1) (firsts := #[]) (caps := #[]) (args0 := [.slice (some ⟨0, 0, none⟩) x.length 0, .int .i64 ((k : Nat) : Int)]) (pre0 := [(0, ⟨(x.flatMap ptc), 29, false, 2⟩)]) (post0 := [(1, ⟨[.int .i64 ((x.getD k (0, 0)).1), .int .i64 ((x.getD k (0, 0)).2)], 29, true, 2⟩)]) (pre := [(0, ⟨(x.flatMap ptc), 29, false, 2⟩)]) (post := [(2, ⟨[.int .i64 ((x.getD k (0, 0)).1), .int .i64 ((x.getD k (0, 0)).2)], 29, true, 2⟩)]) (v0 := .slice (some ⟨1, 0, none⟩) 1 0) (v := .slice (some ⟨2, 0, none⟩) 1 0) [0, 2] (by kernel_rfl) (by kernel_rfl) (by kernel_rfl) (by kernel_rfl) (outer_01 x k hk hzx hx1 hx2) (.cons (.slice _ _ _ _ _ (by decide)) (.cons (.flatB (by kernel_rfl)) .nil)) ⟨rfl, ⟨rfl, rfl, rfl, (.flats (flats_pair _))⟩, trivial⟩ (by kernel_rfl) (by kernel_rfl) (by kernel_rfl) ⟨rfl, ⟨rfl, rfl, rfl, (.flats (by kernel_rfl))⟩, trivial⟩ (.slice _ _ _ _ _ (by decide))) <|
    .a 2 3 <| .nil _ _) ?_
  refine aw_bl 0 27 ?_
  refine aw_lp 55 ?_
  refine al_round ?_
  refine aw_p 111 (
    .a 1 3 <| .nil _ _) ?_
  refine aw_sq 222 223 ?_
  refine aw_tr 444 ?_
  refine aw_sk ?_
  refine then_normal ?_
  refine aw_sq 446 447 ?_
  refine aw_bl 1 893 ?_
  refine aw_p 1787 (
    .a 4 3 <| .nil _ _) ?_
  refine aw_p 3575 (
    .a 2 4 <|
    .p (does_callB (x := .func 130) (ars := #[.tmp 21, .tmp 22]) (ats := #[24, 3]) (g := 130) (vs := [.slice (some ⟨1, 0, none⟩) y.length 0, .int .i64 ((m : Nat) : Int)]) (m := 1) (r := 0) (firsts := #[]) (caps := #[]) (args0 := [.slice (some ⟨0, 0, none⟩) y.length 0, .int .i64 ((m : Nat) : Int)]) (pre0 := [(0, ⟨(y.flatMap ptc), 29, false, 2⟩)]) (post0 := []) (pre := [(1, ⟨(y.flatMap ptc), 29, false, 2⟩)]) (post := []) (v0 := .slice none 0 0) (v := .slice none 0 0) [1] (by kernel_rfl) (by kernel_rfl) (by kernel_rfl) (by kernel_rfl) (outer_00 y m hm hzy hy1 hy2) (.cons (.slice _ _ _ _ _ (by decide)) (.cons (.flatB (by kernel_rfl)) .nil)) ⟨rfl, ⟨rfl, rfl, rfl, (.flats (flats_pair _))⟩, trivial⟩ (by kernel_rfl) (by kernel_rfl) (by kernel_rfl) trivial (.flatB (by kernel_rfl))) <|
    .a 2 4 <| .nil _ _) ?_
  refine aw_bl 2 7151 ?_
  refine aw_lp 14303 ?_
  refine al_round ?_
  refine aw_p 28607 (
    .a 1 4 <| .nil _ _) ?_
  refine aw_sq 57214 57215 ?_
  refine aw_fl 114429 ?_
  refine aw_ex 2 ?_
  refine then_exit ?_
  refine then_exit ?_
  refine block_exit ?_
  refine block_normal ?_
  refine then_normal ?_
  refine aw_p1 (
    .a 2 4 <| .nil _ _) ?_
  refine then_normal ?_
  refine al_round ?_
  refine aw_p 111 (
    .a 1 4 <| .nil _ _) ?_
  refine aw_sq 222 223 ?_
  refine aw_fl 445 ?_
  refine aw_ex 0 ?_
  refine then_exit ?_
  refine then_exit ?_
  refine block_exit ?_
  refine then_normal ?_
  refine aw_p 15 (
    .a 1 4 <| .nil _ _) ?_
  refine aw_rt ?_
  exact en_ret [.bool false] (show (.bool false : Value) = (.bool (Sp.endsB x k y m)) from (congrArg Value.bool (show false = (Sp.endsB x k y m) from by (rw [Sp.endsB_of (Sp.outr_01 hx1 hx2) (Sp.outr_00 hy1 hy2)]; clear hx1 hx2 hk hm hy1 hy2; simp only [List.any_cons, List.any_nil, Sp.eqTo, *, Bool.or_false, Bool.false_or, Bool.or_true, Bool.true_or]))))
theorem ends_0101 (x y : List (Int × Int)) (k m : Nat) (hk : 1 ≤ k ∧ k < x.length) (hm : 1 ≤ m ∧ m < y.length) (hzx : x.length ≤ 4611686018427387904) (hzy : y.length ≤ 4611686018427387904) (hx1 : k ≠ 1) (hx2 : k + 1 = x.length) (hy1 : m ≠ 1) (hy2 : m + 1 = y.length) :
    AC Try.prog 104 2 ([.slice (some ⟨0, 0, none⟩) x.length 0, .int .i64 ((k : Nat) : Int), .slice (some ⟨1, 0, none⟩) y.length 0, .int .i64 ((m : Nat) : Int)]) [(0, ⟨(x.flatMap ptc), 29, false, 2⟩), (1, ⟨(y.flatMap ptc), 29, false, 2⟩)] (.bool (Sp.endsB x k y m)) [] := by
  refine ac_in Try.func104 (fun w0 W pin => ?_)
  refine aw_p 3 (
    .a 1 2 <| .nil _ _) ?_
  refine aw_sq 6 7 ?_
  refine aw_p 13 (
    .a 2 2 <|
    .p (does_callB (x := .func 130) (ars := #[.tmp 13, .tmp 14]) (ats := #[24, 3]) (g := 130) (vs := [.slice (some ⟨0, 0, none⟩) x.length 0, .int .i64 ((k : Nat) : Int)]) (m := 1) (r := 1) (firsts := #[]) (caps := #[]) (args0 := [.slice (some ⟨0, 0, none⟩) x.length 0, .int .i64 ((k : Nat) : Int)]) (pre0 := [(0, ⟨(x.flatMap ptc), 29, false, 2⟩)]) (post0 := [(1, ⟨[.int .i64 ((x.getD k (0, 0)).1), .int .i64 ((x.getD k (0, 0)).2)], 29, true, 2⟩)]) (pre := [(0, ⟨(x.flatMap ptc), 29, false, 2⟩)]) (post := [(2, ⟨[.int .i64 ((x.getD k (0, 0)).1), .int .i64 ((x.getD k (0, 0)).2)], 29, true, 2⟩)]) (v0 := .slice (some ⟨1, 0, none⟩) 1 0) (v := .slice (some ⟨2, 0, none⟩) 1 0) [0, 2] (by kernel_rfl) (by kernel_rfl) (by kernel_rfl) (by kernel_rfl) (outer_01 x k hk hzx hx1 hx2) (.cons (.slice _ _ _ _ _ (by decide)) (.cons (.flatB (by kernel_rfl)) .nil)) ⟨rfl, ⟨rfl, rfl, rfl, (.flats (flats_pair _))⟩, trivial⟩ (by kernel_rfl) (by kernel_rfl) (by kernel_rfl) ⟨rfl, ⟨rfl, rfl, rfl, (.flats (by kernel_rfl))⟩, trivial⟩ (.slice _ _ _ _ _ (by decide))) <|
    .a 2 3 <| .nil _ _) ?_
  refine aw_bl 0 27 ?_
  refine aw_lp 55 ?_
  refine al_round ?_
  refine aw_p 111 (
    .a 1 3 <| .nil _ _) ?_
  refine aw_sq 222 223 ?_
  refine aw_tr 444 ?_
  refine aw_sk ?_
  refine then_normal ?_
  refine aw_sq 446 447 ?_
  refine aw_bl 1 893 ?_
  refine aw_p 1787 (
    .a 4 3 <| .nil _ _) ?_
  refine aw_p 3575 (
    .a 2 4 <|
    .p (does_callB (x := .func 130) (ars := #[.tmp 21, .tmp 22]) (ats := #[24, 3]) (g := 130) (vs := [.slice (some ⟨1, 0, none⟩) y.length 0, .int .i64 ((m : Nat) : Int)]) (m := 1) (r := 1) (firsts := #[]) (caps := #[]) (args0 := [.slice (some ⟨0, 0, none⟩) y.length 0, .int .i64 ((m : Nat) : Int)]) (pre0 := [(0, ⟨(y.flatMap ptc), 29, false, 2⟩)]) (post0 := [(1, ⟨[.int .i64 ((y.getD m (0, 0)).1), .int .i64 ((y.getD m (0, 0)).2)], 29, true, 2⟩)]) (pre := [(1, ⟨(y.flatMap ptc), 29, false, 2⟩)]) (post := [(4, ⟨[.int .i64 ((y.getD m (0, 0)).1), .int .i64 ((y.getD m (0, 0)).2)], 29, true, 2⟩)]) (v0 := .slice (some ⟨1, 0, none⟩) 1 0) (v := .slice (some ⟨4, 0, none⟩) 1 0) [1, 4] (by kernel_rfl) (by kernel_rfl) (by kernel_rfl) (by kernel_rfl) (outer_01 y m hm hzy hy1 hy2) (.cons (.slice _ _ _ _ _ (by decide)) (.cons (.flatB (by kernel_rfl)) .nil)) ⟨rfl, ⟨rfl, rfl, rfl, (.flats (flats_pair _))⟩, trivial⟩ (by kernel_rfl) (by kernel_rfl) (by kernel_rfl) ⟨rfl, ⟨rfl, rfl, rfl, (.flats (by kernel_rfl))⟩, trivial⟩ (.slice _ _ _ _ _ (by decide))) <|
    .a 2 5 <| .nil _ _) ?_
  refine aw_bl 2 7151 ?_
  refine aw_lp 14303 ?_
  refine al_round ?_
  refine aw_p 28607 (
    .a 1 5 <| .nil _ _) ?_
  refine aw_sq 57214 57215 ?_
  refine aw_tr 114428 ?_
  refine aw_sk ?_
  refine then_normal ?_
  refine aw_sq 114430 114431 ?_
  refine aw_bl 3 228861 ?_
  refine aw_p 457723 (
    .a 4 5 <| .nil _ _) ?_
  refine aw_p 915447 (
    .a 2 6 <| .p (does_e ((((x.getD k (0, 0)).1) == ((y.getD m (0, 0)).1)) && ((((x.getD k (0, 0)).2) == ((y.getD m (0, 0)).2)) && true)) (rfl)) <| .nil _ _) ?_
  refine aw_cd 1830894 1830895 ((((x.getD k (0, 0)).1) == ((y.getD m (0, 0)).1)) && ((((x.getD k (0, 0)).2) == ((y.getD m (0, 0)).2)) && true)) (fun h1 => ?_) (fun h1 => ?_)
  · refine aw_p 3661789 (
      .a 1 6 <| .nil _ _) ?_
    refine aw_rt ?_
    refine block_ret ?_
    refine then_ret ?_
    refine then_ret ?_
    refine block_ret ?_
    refine block_ret ?_
    refine then_ret ?_
    refine then_ret ?_
    refine block_ret ?_
    refine then_ret ?_
    exact en_ret [.bool true] (show (.bool true : Value) = (.bool (Sp.endsB x k y m)) from (congrArg Value.bool (show true = (Sp.endsB x k y m) from by (rw [Sp.endsB_of (Sp.outr_01 hx1 hx2) (Sp.outr_01 hy1 hy2)]; clear hx1 hx2 hk hm hy1 hy2; simp only [List.any_cons, List.any_nil, Sp.eqTo, *, Bool.or_false, Bool.false_or, Bool.or_true, Bool.true_or]))))
  · refine aw_sk ?_
    refine block_normal ?_
    refine then_normal ?_
    refine aw_p1 (
      .a 2 6 <| .nil _ _) ?_
    refine then_normal ?_
    refine al_round ?_
    refine aw_p 28607 (
      .a 1 6 <| .nil _ _) ?_
    refine aw_sq 57214 57215 ?_
    refine aw_fl 114429 ?_
    refine aw_ex 2 ?_
    refine then_exit ?_
    refine then_exit ?_
    refine block_exit ?_
    refine block_normal ?_
    refine then_normal ?_
    refine aw_p1 (
      .a 2 6 <| .nil _ _) ?_
    refine then_normal ?_
    refine al_round ?_
    refine aw_p 111 (
      .a 1 6 <| .nil _ _) ?_
    refine aw_sq 222 223 ?_
    refine aw_fl 445 ?_
    refine aw_ex 0 ?_
    refine then_exit ?_
    refine then_exit ?_
    refine block_exit ?_
    refine then_normal ?_
    refine aw_p 15 (
      .a 1 6 <| .nil _ _) ?_
    refine aw_rt ?_
    exact en_ret [.bool false] (show (.bool false : Value) = (.bool (Sp.endsB x k y m)) from (congrArg Value.bool (show false = (Sp.endsB x k y m) from by (rw [Sp.endsB_of (Sp.outr_01 hx1 hx2) (Sp.outr_01 hy1 hy2)]; clear hx1 hx2 hk hm hy1 hy2; simp only [List.any_cons, List.any_nil, Sp.eqTo, *, Bool.or_false, Bool.false_or, Bool.or_true, Bool.true_or]))))
theorem ends_0110 (x y : List (Int × Int)) (k m : Nat) (hk : 1 ≤ k ∧ k < x.length) (hm : 1 ≤ m ∧ m < y.length) (hzx : x.length ≤ 4611686018427387904) (hzy : y.length ≤ 4611686018427387904) (hx1 : k ≠ 1) (hx2 : k + 1 = x.length) (hy1 : m = 1) (hy2 : m + 1 ≠ y.length) :
    AC Try.prog 104 2 ([.slice (some ⟨0, 0, none⟩) x.length 0, .int .i64 ((k : Nat) : Int), .slice (some ⟨1, 0, none⟩) y.length 0, .int .i64 ((m : Nat) : Int)]) [(0, ⟨(x.flatMap ptc), 29, false, 2⟩), (1, ⟨(y.flatMap ptc), 29, false, 2⟩)] (.bool (Sp.endsB x k y m)) [] := by
  refine ac_in Try.func104 (fun w0 W pin => ?_)
  refine aw_p 3 (
    .a 1 2 <| .nil _ _) ?_
  refine aw_sq 6 7 ?_
  refine aw_p 13 (
    .a 2 2 <|
    .p (does_callB (x := .func 130) (ars := #[.tmp 13, .tmp 14]) (ats := #[24, 3]) (g := 130) (vs := [.slice (some ⟨0, 0, none⟩) x.length 0, .int .i64 ((k : Nat) : Int)]) (m := 1) (r := 1) (firsts := #[]) (caps := #[]) (args0 := [.slice (some ⟨0, 0, none⟩) x.length 0, .int .i64 ((k : Nat) : Int)]) (pre0 := [(0, ⟨(x.flatMap ptc), 29, false, 2⟩)]) (post0 := [(1, ⟨[.int .i64 ((x.getD k (0, 0)).1), .int .i64 ((x.getD k (0, 0)).2)], 29, true, 2⟩)]) (pre := [(0, ⟨(x.flatMap ptc), 29, false, 2⟩)]) (post := [(2, ⟨[.int .i64 ((x.getD k (0, 0)).1), .int .i64 ((x.getD k (0, 0)).2)], 29, true, 2⟩)]) (v0 := .slice (some ⟨1, 0, none⟩) 1 0) (v := .slice (some ⟨2, 0, none⟩) 1 0) [0, 2] (by kernel_rfl) (by kernel_rfl) (by kernel_rfl) (by kernel_rfl) (outer_01 x k hk hzx hx1 hx2) (.cons (.slice _ _ _ _ _ (by decide)) (.cons (.flatB (by kernel_rfl)) .nil)) ⟨rfl, ⟨rfl, rfl, rfl, (.flats (flats_pair _))⟩, trivial⟩ (by kernel_rfl) (by kernel_rfl) (by kernel_rfl) ⟨rfl, ⟨rfl, rfl, rfl, (.flats (by kernel_rfl))⟩, trivial⟩ (.slice _ _ _ _ _ (by decide))) <|
    .a 2 3 <| .nil _ _) ?_
  refine aw_bl 0 27 ?_
  refine aw_lp 55 ?_
  refine al_round ?_
  refine aw_p 111 (
    .a 1 3 <| .nil _ _) ?_
  refine aw_sq 222 223 ?_
  refine aw_tr 444 ?_
  refine aw_sk ?_
  refine then_normal ?_
  refine aw_sq 446 447 ?_
  refine aw_bl 1 893 ?_
  refine aw_p 1787 (
    .a 4 3 <| .nil _ _) ?_
  refine aw_p 3575 (
    .a 2 4 <|
    .p (does_callB (x := .func 130) (ars := #[.tmp 21, .tmp 22]) (ats := #[24, 3]) (g := 130) (vs := [.slice (some ⟨1, 0, none⟩) y.length 0, .int .i64 ((m : Nat) : Int)]) (m := 1) (r := 1) (firsts := #[]) (caps := #[]) (args0 := [.slice (some ⟨0, 0, none⟩) y.length 0, .int .i64 ((m : Nat) : Int)]) (pre0 := [(0, ⟨(y.flatMap ptc), 29, false, 2⟩)]) (post0 := [(1, ⟨[.int .i64 ((y.getD 0 (0, 0)).1), .int .i64 ((y.getD 0 (0, 0)).2)], 29, true, 2⟩)]) (pre := [(1, ⟨(y.flatMap ptc), 29, false, 2⟩)]) (post := [(4, ⟨[.int .i64 ((y.getD 0 (0, 0)).1), .int .i64 ((y.getD 0 (0, 0)).2)], 29, true, 2⟩)]) (v0 := .slice (some ⟨1, 0, none⟩) 1 0) (v := .slice (some ⟨4, 0, none⟩) 1 0) [1, 4] (by kernel_rfl) (by kernel_rfl) (by kernel_rfl) (by kernel_rfl) (outer_10 y m hm hzy hy1 hy2) (.cons (.slice _ _ _ _ _ (by decide)) (.cons (.flatB (by kernel_rfl)) .nil)) ⟨rfl, ⟨rfl, rfl, rfl, (.flats (flats_pair _))⟩, trivial⟩ (by kernel_rfl) (by kernel_rfl) (by kernel_rfl) ⟨rfl, ⟨rfl, rfl, rfl, (.flats (by kernel_rfl))⟩, trivial⟩ (.slice _ _ _ _ _ (by decide))) <|
    .a 2 5 <| .nil _ _) ?_
  refine aw_bl 2 7151 ?_
  refine aw_lp 14303 ?_
  refine al_round ?_
  refine aw_p 28607 (
    .a 1 5 <| .nil _ _) ?_
  refine aw_sq 57214 57215 ?_
  refine aw_tr 114428 ?_
  refine aw_sk ?_
  refine then_normal ?_
  refine aw_sq 114430 114431 ?_
  refine aw_bl 3 228861 ?_
  refine aw_p 457723 (
    .a 4 5 <| .nil _ _) ?_
  refine aw_p 915447 (
    .a 2 6 <| .p (does_e ((((x.getD k (0, 0)).1) == ((y.getD 0 (0, 0)).1)) && ((((x.getD k (0, 0)).2) == ((y.getD 0 (0, 0)).2)) && true)) (rfl)) <| .nil _ _) ?_
  refine aw_cd 1830894 1830895 ((((x.getD k (0, 0)).1) == ((y.getD 0 (0, 0)).1)) && ((((x.getD k (0, 0)).2) == ((y.getD 0 (0, 0)).2)) && true)) (fun h1 => ?_) (fun h1 => ?_)
  · refine aw_p 3661789 (
      .a 1 6 <| .nil _ _) ?_
    refine aw_rt ?_
    refine block_ret ?_
    refine then_ret ?_
    refine then_ret ?_
    refine block_ret ?_
    refine block_ret ?_
    refine then_ret ?_
    refine then_ret ?_
    refine block_ret ?_
    refine then_ret ?_
    exact en_ret [.bool true] (show (.bool true : Value) = (.bool (Sp.endsB x k y m)) from (congrArg Value.bool (show true = (Sp.endsB x k y m) from by (rw [Sp.endsB_of (Sp.outr_01 hx1 hx2) (Sp.outr_10 hy1 hy2)]; clear hx1 hx2 hk hm hy1 hy2; simp only [List.any_cons, List.any_nil, Sp.eqTo, *, Bool.or_false, Bool.false_or, Bool.or_true, Bool.true_or]))))
  · refine aw_sk ?_
    refine block_normal ?_
    refine then_normal ?_
    refine aw_p1 (
      .a 2 6 <| .nil _ _) ?_
    refine then_normal ?_
    refine al_round ?_
    refine aw_p 28607 (
      .a 1 6 <| .nil _ _) ?_
    refine aw_sq 57214 57215 ?_
    refine aw_fl 114429 ?_
    refine aw_ex 2 ?_
    refine then_exit ?_
    refine then_exit ?_
    refine block_exit ?_
    refine block_normal ?_
    refine then_normal ?_
    refine aw_p1 (
      .a 2 6 <| .nil _ _) ?_
    refine then_normal ?_
    refine al_round ?_
    refine aw_p 111 (
      .a 1 6 <| .nil _ _) ?_
    refine aw_sq 222 223 ?_
    refine aw_fl 445 ?_
    refine aw_ex 0 ?_
    refine then_exit ?_
    refine then_exit ?_
    refine block_exit ?_
    refine then_normal ?_
    refine aw_p 15 (
      .a 1 6 <| .nil _ _) ?_
    refine aw_rt ?_
    exact en_ret [.bool false] (show (.bool false : Value) = (.bool (Sp.endsB x k y m)) from (congrArg Value.bool (show false = (Sp.endsB x k y m) from by (rw [Sp.endsB_of (Sp.outr_01 hx1 hx2) (Sp.outr_10 hy1 hy2)]; clear hx1 hx2 hk hm hy1 hy2; simp only [List.any_cons, List.any_nil, Sp.eqTo, *, Bool.or_false, Bool.false_or, Bool.or_true, Bool.true_or]))))
theorem ends_0111 (x y : List (Int × Int)) (k m : Nat) (hk : 1 ≤ k ∧ k < x.length) (hm : 1 ≤ m ∧ m < y.length) (hzx : x.length ≤ 4611686018427387904) (hzy : y.length ≤ 4611686018427387904) (hx1 : k ≠ 1) (hx2 : k + 1 = x.length) (hy1 : m = 1) (hy2 : m + 1 = y.length) :
    AC Try.prog 104 2 ([.slice (some ⟨0, 0, none⟩) x.length 0, .int .i64 ((k : Nat) : Int), .slice (some ⟨1, 0, none⟩) y.length 0, .int .i64 ((m : Nat) : Int)]) [(0, ⟨(x.flatMap ptc), 29, false, 2⟩), (1, ⟨(y.flatMap ptc), 29, false, 2⟩)] (.bool (Sp.endsB x k y m)) [] := by
  refine ac_in Try.func104 (fun w0 W pin => ?_)
  refine aw_p 3 (
    .a 1 2 <| .nil _ _) ?_
  refine aw_sq 6 7 ?_
  refine aw_p 13 (
    .a 2 2 <|
    .p (does_callB (x := .func 130) (ars := #[.tmp 13, .tmp 14]) (ats := #[24, 3]) (g := 130) (vs := [.slice (some ⟨0, 0, none⟩) x.length 0, .int .i64 ((k : Nat) : Int)]) (m := 1) (r := 1) (firsts := #[]) (caps := #[]) (args0 := [.slice (some ⟨0, 0, none⟩) x.length 0, .int .i64 ((k : Nat) : Int)]) (pre0 := [(0, ⟨(x.flatMap ptc), 29, false, 2⟩)]) (post0 := [(1, ⟨[.int .i64 ((x.getD k (0, 0)).1), .int .i64 ((x.getD k (0, 0)).2)], 29, true, 2⟩)]) (pre := [(0, ⟨(x.flatMap ptc), 29, false, 2⟩)]) (post := [(2, ⟨[.int .i64 ((x.getD k (0, 0)).1), .int .i64 ((x.getD k (0, 0)).2)], 29, true, 2⟩)]) (v0 := .slice (some ⟨1, 0, none⟩) 1 0) (v := .slice (some ⟨2, 0, none⟩) 1 0) [0, 2] (by kernel_rfl) (by kernel_rfl) (by kernel_rfl) (by kernel_rfl) (outer_01 x k hk hzx hx1 hx2) (.cons (.slice _ _ _ _ _ (by decide)) (.cons (.flatB (by kernel_rfl)) .nil)) ⟨rfl, ⟨rfl, rfl, rfl, (.flats (flats_pair _))⟩, trivial⟩ (by kernel_rfl) (by kernel_rfl) (by kernel_rfl) ⟨rfl, ⟨rfl, rfl, rfl, (.flats (by kernel_rfl))⟩, trivial⟩ (.slice _ _ _ _ _ (by decide))) <|
    .a 2 3 <| .nil _ _) ?_
  refine aw_bl 0 27 ?_
  refine aw_lp 55 ?_
  refine al_round ?_
  refine aw_p 111 (
    .a 1 3 <| .nil _ _) ?_
  refine aw_sq 222 223 ?_
  refine aw_tr 444 ?_
  refine aw_sk ?_
  refine then_normal ?_
  refine aw_sq 446 447 ?_
  refine aw_bl 1 893 ?_
  refine aw_p 1787 (
    .a 4 3 <| .nil _ _) ?_
  refine aw_p 3575 (
    .a 2 4 <|
    .p (does_callB (x := .func 130) (ars := #[.tmp 21, .tmp 22]) (ats := #[24, 3]) (g := 130) (vs := [.slice (some ⟨1, 0, none⟩) y.length 0, .int .i64 ((m : Nat) : Int)]) (m := 1) (r := 1) (firsts := #[]) (caps := #[]) (args0 := [.slice (some ⟨0, 0, none⟩) y.length 0, .int .i64 ((m : Nat) : Int)]) (pre0 := [(0, ⟨(y.flatMap ptc), 29, false, 2⟩)]) (post0 := [(1, ⟨[.int .i64 ((y.getD 0 (0, 0)).1), .int .i64 ((y.getD 0 (0, 0)).2), .int .i64 ((y.getD m (0, 0)).1), .int .i64 ((y.getD m (0, 0)).2)], 29, true, 2⟩)]) (pre := [(1, ⟨(y.flatMap ptc), 29, false, 2⟩)]) (post := [(4, ⟨[.int .i64 ((y.getD 0 (0, 0)).1), .int .i64 ((y.getD 0 (0, 0)).2), .int .i64 ((y.getD m (0, 0)).1), .int .i64 ((y.getD m (0, 0)).2)], 29, true, 2⟩)]) (v0 := .slice (some ⟨1, 0, none⟩) 2 0) (v := .slice (some ⟨4, 0, none⟩) 2 0) [1, 4] (by kernel_rfl) (by kernel_rfl) (by kernel_rfl) (by kernel_rfl) (outer_11 y m hm hzy hy1 hy2) (.cons (.slice _ _ _ _ _ (by decide)) (.cons (.flatB (by kernel_rfl)) .nil)) ⟨rfl, ⟨rfl, rfl, rfl, (.flats (flats_pair _))⟩, trivial⟩ (by kernel_rfl) (by kernel_rfl) (by kernel_rfl) ⟨rfl, ⟨rfl, rfl, rfl, (.flats (by kernel_rfl))⟩, trivial⟩ (.slice _ _ _ _ _ (by decide))) <|
    .a 2 5 <| .nil _ _) ?_
  refine aw_bl 2 7151 ?_
  refine aw_lp 14303 ?_
  refine al_round ?_
  refine aw_p 28607 (
    .a 1 5 <| .nil _ _) ?_
  refine aw_sq 57214 57215 ?_
  refine aw_tr 114428 ?_
  refine aw_sk ?_
  refine then_normal ?_
  refine aw_sq 114430 114431 ?_
  refine aw_bl 3 228861 ?_
  refine aw_p 457723 (
    .a 4 5 <| .nil _ _) ?_
  refine aw_p 915447 (
    .a 2 6 <| .p (does_e ((((x.getD k (0, 0)).1) == ((y.getD 0 (0, 0)).1)) && ((((x.getD k (0, 0)).2) == ((y.getD 0 (0, 0)).2)) && true)) (rfl)) <| .nil _ _) ?_
  refine aw_cd 1830894 1830895 ((((x.getD k (0, 0)).1) == ((y.getD 0 (0, 0)).1)) && ((((x.getD k (0, 0)).2) == ((y.getD 0 (0, 0)).2)) && true)) (fun h1 => ?_) (fun h1 => ?_)
  · refine aw_p 3661789 (
      .a 1 6 <| .nil _ _) ?_
    refine aw_rt ?_
    refine block_ret ?_
    refine then_ret ?_
    refine then_ret ?_
    refine block_ret ?_
    refine block_ret ?_
    refine then_ret ?_
    refine then_ret ?_
    refine block_ret ?_
    refine then_ret ?_
    exact en_ret [.bool true] (show (.bool true : Value) = (.bool (Sp.endsB x k y m)) from (congrArg Value.bool (show true = (Sp.endsB x k y m) from by (rw [Sp.endsB_of (Sp.outr_01 hx1 hx2) (Sp.outr_11 hy1 hy2)]; clear hx1 hx2 hk hm hy1 hy2; simp only [List.any_cons, List.any_nil, Sp.eqTo, *, Bool.or_false, Bool.false_or, Bool.or_true, Bool.true_or]))))
  · refine aw_sk ?_
    refine block_normal ?_
    refine then_normal ?_
    refine aw_p1 (
      .a 2 6 <| .nil _ _) ?_
    refine then_normal ?_
    refine al_round ?_
    refine aw_p 28607 (
      .a 1 6 <| .nil _ _) ?_
    refine aw_sq 57214 57215 ?_
    refine aw_tr 114428 ?_
    refine aw_sk ?_
    refine then_normal ?_
    refine aw_sq 114430 114431 ?_
    refine aw_bl 3 228861 ?_
    refine aw_p 457723 (
      .a 4 6 <| .nil _ _) ?_
    refine aw_p 915447 (
      .a 2 7 <| .p (does_e ((((x.getD k (0, 0)).1) == ((y.getD m (0, 0)).1)) && ((((x.getD k (0, 0)).2) == ((y.getD m (0, 0)).2)) && true)) (rfl)) <| .nil _ _) ?_
    refine aw_cd 1830894 1830895 ((((x.getD k (0, 0)).1) == ((y.getD m (0, 0)).1)) && ((((x.getD k (0, 0)).2) == ((y.getD m (0, 0)).2)) && true)) (fun h2 => ?_) (fun h2 => ?_)
    · refine aw_p 3661789 (
        .a 1 7 <| .nil _ _) ?_
      refine aw_rt ?_
      refine block_ret ?_
      refine then_ret ?_
      refine then_ret ?_
      refine block_ret ?_
      refine block_ret ?_
      refine then_ret ?_
      refine then_ret ?_
      refine block_ret ?_
      refine then_ret ?_
      exact en_ret [.bool true] (show (.bool true : Value) = (.bool (Sp.endsB x k y m)) from (congrArg Value.bool (show true = (Sp.endsB x k y m) from by (rw [Sp.endsB_of (Sp.outr_01 hx1 hx2) (Sp.outr_11 hy1 hy2)]; clear hx1 hx2 hk hm hy1 hy2; simp only [List.any_cons, List.any_nil, Sp.eqTo, *, Bool.or_false, Bool.false_or, Bool.or_true, Bool.true_or]))))
    · refine aw_sk ?_
      refine block_normal ?_
      refine then_normal ?_
      refine aw_p1 (
        .a 2 7 <| .nil _ _) ?_
      refine then_normal ?_
      refine al_round ?_
      refine aw_p 28607 (
        .a 1 7 <| .nil _ _) ?_
      refine aw_sq 57214 57215 ?_
      refine aw_fl 114429 ?_
      refine aw_ex 2 ?_
      refine then_exit ?_
      refine then_exit ?_
      refine block_exit ?_
      refine block_normal ?_
      refine then_normal ?_
      refine aw_p1 (
        .a 2 7 <| .nil _ _) ?_
      refine then_normal ?_
      refine al_round ?_
      refine aw_p 111 (
        .a 1 7 <| .nil _ _) ?_
      refine aw_sq 222 223 ?_
      refine aw_fl 445 ?_
      refine aw_ex 0 ?_
      refine then_exit ?_
      refine then_exit ?_
      refine block_exit ?_
      refine then_normal ?_
      refine aw_p 15 (
        .a 1 7 <| .nil _ _) ?_
      refine aw_rt ?_
      exact en_ret [.bool false] (show (.bool false : Value) = (.bool (Sp.endsB x k y m)) from (congrArg Value.bool (show false = (Sp.endsB x k y m) from by (rw [Sp.endsB_of (Sp.outr_01 hx1 hx2) (Sp.outr_11 hy1 hy2)]; clear hx1 hx2 hk hm hy1 hy2; simp only [List.any_cons, List.any_nil, Sp.eqTo, *, Bool.or_false, Bool.false_or, Bool.or_true, Bool.true_or]))))
theorem ends_1100 (x y : List (Int × Int)) (k m : Nat) (hk : 1 ≤ k ∧ k < x.length) (hm : 1 ≤ m ∧ m < y.length) (hzx : x.length ≤ 4611686018427387904) (hzy : y.length ≤ 4611686018427387904) (hx1 : k = 1) (hx2 : k + 1 = x.length) (hy1 : m ≠ 1) (hy2 : m + 1 ≠ y.length) :
    AC Try.prog 104 2 ([.slice (some ⟨0, 0, none⟩) x.length 0, .int .i64 ((k : Nat) : Int), .slice (some ⟨1, 0, none⟩) y.length 0, .int .i64 ((m : Nat) : Int)]) [(0, ⟨(x.flatMap ptc), 29, false, 2⟩), (1, ⟨(y.flatMap ptc), 29, false, 2⟩)] (.bool (Sp.endsB x k y m)) [] := by
  refine ac_in Try.func104 (fun w0 W pin => ?_)
  refine aw_p 3 (
    .a 1 2 <| .nil _ _) ?_
  refine aw_sq 6 7 ?_
  refine aw_p 13 (
    .a 2 2 <|
    .p (does_callB (x := .func 130) (ars := #[.tmp 13, .tmp 14]) (ats := #[24, 3]) (g := 130) (vs := [.slice (some ⟨0, 0, none⟩) x.length 0, .int .i64 ((k : Nat) : Int)]) (m := 1) (r := 1) (firsts := #[]) (caps := #[]) (args0 := [.slice (some ⟨0, 0, none⟩) x.length 0, .int .i64 ((k : Nat) : Int)]) (pre0 := [(0, ⟨(x.flatMap ptc), 29, false, 2⟩)]) (post0 := [(1, ⟨[.int .i64 ((x.getD 0 (0, 0)).1), .int .i64 ((x.getD 0 (0, 0)).2), .int .i64 ((x.getD k (0, 0)).1), .int .i64 ((x.getD k (0, 0)).2)], 29, true, 2⟩)]) (pre := [(0, ⟨(x.flatMap ptc), 29, false, 2⟩)]) (post := [(2, ⟨[.int .i64 ((x.getD 0 (0, 0)).1), .int .i64 ((x.getD 0 (0, 0)).2), .int .i64 ((x.getD k (0, 0)).1), .int .i64 ((x.getD k (0, 0)).2)], 29, true, 2⟩)]) (v0 := .slice (some ⟨1, 0, none⟩) 2 0) (v := .slice (some ⟨2, 0, none⟩) 2 0) [0, 2] (by kernel_rfl) (by kernel_rfl) (by kernel_rfl) (by kernel_rfl) (outer_11 x k hk hzx hx1 hx2) (.cons (.slice _ _ _ _ _ (by decide)) (.cons (.flatB (by kernel_rfl)) .nil)) ⟨rfl, ⟨rfl, rfl, rfl, (.flats (flats_pair _))⟩, trivial⟩ (by kernel_rfl) (by kernel_rfl) (by kernel_rfl) ⟨rfl, ⟨rfl, rfl, rfl, (.flats (by kernel_rfl))⟩, trivial⟩ (.slice _ _ _ _ _ (by decide))) <|
    .a 2 3 <| .nil _ _) ?_
  refine aw_bl 0 27 ?_
  refine aw_lp 55 ?_
  refine al_round ?_
  refine aw_p 111 (
    .a 1 3 <| .nil _ _) ?_
  refine aw_sq 222 223 ?_
  refine aw_tr 444 ?_
  refine aw_sk ?_
  refine then_normal ?_
  refine aw_sq 446 447 ?_
  refine aw_bl 1 893 ?_
  refine aw_p 1787 (
    .a 4 3 <| .nil _ _) ?_
  refine aw_p 3575 (
    .a 2 4 <|
    .p (does_callB (x := .func 130) (ars := #[.tmp 21, .tmp 22]) (ats := #[24, 3]) (g := 130) (vs := [.slice (some ⟨1, 0, none⟩) y.length 0, .int .i64 ((m : Nat) : Int)]) (m := 1) (r := 0) (firsts := #[]) (caps := #[]) (args0 := [.slice (some ⟨0, 0, none⟩) y.length 0, .int .i64 ((m : Nat) : Int)]) (pre0 := [(0, ⟨(y.flatMap ptc), 29, false, 2⟩)]) (post0 := []) (pre := [(1, ⟨(y.flatMap ptc), 29, false, 2⟩)]) (post := []) (v0 := .slice none 0 0) (v := .slice none 0 0) [1] (by kernel_rfl) (by kernel_rfl) (by kernel_rfl) (by kernel_rfl) (outer_00 y m hm hzy hy1 hy2) (.cons (.slice _ _ _ _ _ (by decide)) (.cons (.flatB (by kernel_rfl)) .nil)) ⟨rfl, ⟨rfl, rfl, rfl, (.flats (flats_pair _))⟩, trivial⟩ (by kernel_rfl) (by kernel_rfl) (by kernel_rfl) trivial (.flatB (by kernel_rfl))) <|
    .a 2 4 <| .nil _ _) ?_
  refine aw_bl 2 7151 ?_
  refine aw_lp 14303 ?_
  refine al_round ?_
  refine aw_p 28607 (
    .a 1 4 <| .nil _ _) ?_
  refine aw_sq 57214 57215 ?_
  refine aw_fl 114429 ?_
  refine aw_ex 2 ?_
  refine then_exit ?_
  refine then_exit ?_
  refine block_exit ?_
  refine block_normal ?_
  refine then_normal ?_
  refine aw_p1 (
    .a 2 4 <| .nil _ _) ?_
  refine then_normal ?_
  refine al_round ?_
  refine aw_p 111 (
    .a 1 4 <| .nil _ _) ?_
  refine aw_sq 222 223 ?_
  refine aw_tr 444 ?_
  refine aw_sk ?_
  refine then_normal ?_
  refine aw_sq 446 447 ?_
  refine aw_bl 1 893 ?_
  refine aw_p 1787 (
    .a 4 4 <| .nil _ _) ?_
  refine aw_p 3575 (
    .a 2 5 <|
    .p (does_callB (x := .func 130) (ars := #[.tmp 21, .tmp 22]) (ats := #[24, 3]) (g := 130) (vs := [.slice (some ⟨1, 0, none⟩) y.length 0, .int .i64 ((m : Nat) : Int)]) (m := 1) (r := 0) (firsts := #[]) (caps := #[]) (args0 := [.slice (some ⟨0, 0, none⟩) y.length 0, .int .i64 ((m : Nat) : Int)]) (pre0 := [(0, ⟨(y.flatMap ptc), 29, false, 2⟩)]) (post0 := []) (pre := [(1, ⟨(y.flatMap ptc), 29, false, 2⟩)]) (post := []) (v0 := .slice none 0 0) (v := .slice none 0 0) [1] (by kernel_rfl) (by kernel_rfl) (by kernel_rfl) (by kernel_rfl) (outer_00 y m hm hzy hy1 hy2) (.cons (.slice _ _ _ _ _ (by decide)) (.cons (.flatB (by kernel_rfl)) .nil)) ⟨rfl, ⟨rfl, rfl, rfl, (.flats (flats_pair _))⟩, trivial⟩ (by kernel_rfl) (by kernel_rfl) (by kernel_rfl) trivial (.flatB (by kernel_rfl))) <|
    .a 2 5 <| .nil _ _) ?_
  refine aw_bl 2 7151 ?_
  refine aw_lp 14303 ?_
  refine al_round ?_
  refine aw_p 28607 (
    .a 1 5 <| .nil _ _) ?_
  refine aw_sq 57214 57215 ?_
  refine aw_fl 114429 ?_
  refine aw_ex 2 ?_
  refine then_exit ?_
  refine then_exit ?_
  refine block_exit ?_
  refine block_normal ?_
  refine then_normal ?_
  refine aw_p1 (
    .a 2 5 <| .nil _ _) ?_
  refine then_normal ?_
  refine al_round ?_
  refine aw_p 111 (
    .a 1 5 <| .nil _ _) ?_
  refine aw_sq 222 223 ?_
  refine aw_fl 445 ?_
  refine aw_ex 0 ?_
  refine then_exit ?_
  refine then_exit ?_
  refine block_exit ?_
  refine then_normal ?_
  refine aw_p 15 (
    .a 1 5 <| .nil _ _) ?_
  refine aw_rt ?_
  exact en_ret [.bool false] (show (.bool false : Value) = (.bool (Sp.endsB x k y m)) from (congrArg Value.bool (show false = (Sp.endsB x k y m) from by (rw [Sp.endsB_of (Sp.outr_11 hx1 hx2) (Sp.outr_00 hy1 hy2)]; clear hx1 hx2 hk hm hy1 hy2; simp only [List.any_cons, List.any_nil, Sp.eqTo, *, Bool.or_false, Bool.false_or, Bool.or_true, Bool.true_or]))))
theorem ends_1101 (x y : List (Int × Int)) (k m : Nat) (hk : 1 ≤ k ∧ k < x.length) (hm : 1 ≤ m ∧ m < y.length) (hzx : x.length ≤ 4611686018427387904) (hzy : y.length ≤ 4611686018427387904) (hx1 : k = 1) (hx2 : k + 1 = x.length) (hy1 : m ≠ 1) (hy2 : m + 1 = y.length) :
    AC Try.prog 104 2 ([.slice (some ⟨0, 0, none⟩) x.length 0, .int .i64 ((k : Nat) : Int), .slice (some ⟨1, 0, none⟩) y.length 0, .int .i64 ((m : Nat) : Int)]) [(0, ⟨(x.flatMap ptc), 29, false, 2⟩), (1, ⟨(y.flatMap ptc), 29, false, 2⟩)] (.bool (Sp.endsB x k y m)) [] := by
  refine ac_in Try.func104 (fun w0 W pin => ?_)
  refine aw_p 3 (
    .a 1 2 <| .nil _ _) ?_
  refine aw_sq 6 7 ?_
  refine aw_p 13 (
    .a 2 2 <|
    .p (does_callB (x := .func 130) (ars := #[.tmp 13, .tmp 14]) (ats := #[24, 3]) (g := 130) (vs := [.slice (some ⟨0, 0, none⟩) x.length 0, .int .i64 ((k : Nat) : Int)]) (m := 1) (r := 1) (firsts := #[]) (caps := #[]) (args0 := [.slice (some ⟨0, 0, none⟩) x.length 0, .int .i64 ((k : Nat) : Int)]) (pre0 := [(0, ⟨(x.flatMap ptc), 29, false, 2⟩)]) (post0 := [(1, ⟨[.int .i64 ((x.getD 0 (0, 0)).1), .int .i64 ((x.getD 0 (0, 0)).2), .int .i64 ((x.getD k (0, 0)).1), .int .i64 ((x.getD k (0, 0)).2)], 29, true, 2⟩)]) (pre := [(0, ⟨(x.flatMap ptc), 29, false, 2⟩)]) (post := [(2, ⟨[.int .i64 ((x.getD 0 (0, 0)).1), .int .i64 ((x.getD 0 (0, 0)).2), .int .i64 ((x.getD k (0, 0)).1), .int .i64 ((x.getD k (0, 0)).2)], 29, true, 2⟩)]) (v0 := .slice (some ⟨1, 0, none⟩) 2 0) (v := .slice (some ⟨2, 0, none⟩) 2 0) [0, 2] (by kernel_rfl) (by kernel_rfl) (by kernel_rfl) (by kernel_rfl) (outer_11 x k hk hzx hx1 hx2) (.cons (.slice _ _ _ _ _ (by decide)) (.cons (.flatB (by kernel_rfl)) .nil)) ⟨rfl, ⟨rfl, rfl, rfl, (.flats (flats_pair _))⟩, trivial⟩ (by kernel_rfl) (by kernel_rfl) (by kernel_rfl) ⟨rfl, ⟨rfl, rfl, rfl, (.flats (by kernel_rfl))⟩, trivial⟩ (.slice _ _ _ _ _ (by decide))) <|
    .a 2 3 <| .nil _ _) ?_
  refine aw_bl 0 27 ?_
  refine aw_lp 55 ?_
  refine al_round ?_
  refine aw_p 111 (
    .a 1 3 <| .nil _ _) ?_
  refine aw_sq 222 223 ?_
  refine aw_tr 444 ?_
  refine aw_sk ?_
  refine then_normal ?_
  refine aw_sq 446 447 ?_
  refine aw_bl 1 893 ?_
  refine aw_p 1787 (
    .a 4 3 <| .nil _ _) ?_
  refine aw_p 3575 (
    .a 2 4 <|
    .p (does_callB (x := .func 130) (ars := #[.tmp 21, .tmp 22]) (ats := #[24, 3]) (g := 130) (vs := [.slice (some ⟨1, 0, none⟩) y.length 0, .int .i64 ((m : Nat) : Int)]) (m := 1) (r := 1) (firsts := #[]) (caps := #[]) (args0 := [.slice (some ⟨0, 0, none⟩) y.length 0, .int .i64 ((m : Nat) : Int)]) (pre0 := [(0, ⟨(y.flatMap ptc), 29, false, 2⟩)]) (post0 := [(1, ⟨[.int .i64 ((y.getD m (0, 0)).1), .int .i64 ((y.getD m (0, 0)).2)], 29, true, 2⟩)]) (pre := [(1, ⟨(y.flatMap ptc), 29, false, 2⟩)]) (post := [(4, ⟨[.int .i64 ((y.getD m (0, 0)).1), .int .i64 ((y.getD m (0, 0)).2)], 29, true, 2⟩)]) (v0 := .slice (some ⟨1, 0, none⟩) 1 0) (v := .slice (some ⟨4, 0, none⟩) 1 0) [1, 4] (by kernel_rfl) (by kernel_rfl) (by kernel_rfl) (by kernel_rfl) (outer_01 y m hm hzy hy1 hy2) (.cons (.slice _ _ _ _ _ (by decide)) (.cons (.flatB (by kernel_rfl)) .nil)) ⟨rfl, ⟨rfl, rfl, rfl, (.flats (flats_pair _))⟩, trivial⟩ (by kernel_rfl) (by kernel_rfl) (by kernel_rfl) ⟨rfl, ⟨rfl, rfl, rfl, (.flats (by kernel_rfl))⟩, trivial⟩ (.slice _ _ _ _ _ (by decide))) <|
    .a 2 5 <| .nil _ _) ?_
  refine aw_bl 2 7151 ?_
  refine aw_lp 14303 ?_
  refine al_round ?_
  refine aw_p 28607 (
    .a 1 5 <| .nil _ _) ?_
  refine aw_sq 57214 57215 ?_
  refine aw_tr 114428 ?_
  refine aw_sk ?_
  refine then_normal ?_
  refine aw_sq 114430 114431 ?_
  refine aw_bl 3 228861 ?_
  refine aw_p 457723 (
    .a 4 5 <| .nil _ _) ?_
  refine aw_p 915447 (
    .a 2 6 <| .p (does_e ((((x.getD 0 (0, 0)).1) == ((y.getD m (0, 0)).1)) && ((((x.getD 0 (0, 0)).2) == ((y.getD m (0, 0)).2)) && true)) (rfl)) <| .nil _ _) ?_
  refine aw_cd 1830894 1830895 ((((x.getD 0 (0, 0)).1) == ((y.getD m (0, 0)).1)) && ((((x.getD 0 (0, 0)).2) == ((y.getD m (0, 0)).2)) && true)) (fun h1 => ?_) (fun h1 => ?_)
  · refine aw_p 3661789 (
      .a 1 6 <| .nil _ _) ?_
    refine aw_rt ?_
    refine block_ret ?_
    refine then_ret ?_
    refine then_ret ?_
    refine block_ret ?_
    refine block_ret ?_
    refine then_ret ?_
    refine then_ret ?_
    refine block_ret ?_
    refine then_ret ?_
    exact en_ret [.bool true] (show (.bool true : Value) = (.bool (Sp.endsB x k y m)) from (congrArg Value.bool (show true = (Sp.endsB x k y m) from by (rw [Sp.endsB_of (Sp.outr_11 hx1 hx2) (Sp.outr_01 hy1 hy2)]; clear hx1 hx2 hk hm hy1 hy2; simp only [List.any_cons, List.any_nil, Sp.eqTo, *, Bool.or_false, Bool.false_or, Bool.or_true, Bool.true_or]))))
  · refine aw_sk ?_
    refine block_normal ?_
    refine then_normal ?_
    refine aw_p1 (
      .a 2 6 <| .nil _ _) ?_
    refine then_normal ?_
    refine al_round ?_
    refine aw_p 28607 (
      .a 1 6 <| .nil _ _) ?_
    refine aw_sq 57214 57215 ?_
    refine aw_fl 114429 ?_
    refine aw_ex 2 ?_
    refine then_exit ?_
    refine then_exit ?_
    refine block_exit ?_
    refine block_normal ?_
    refine then_normal ?_
    refine aw_p1 (
      .a 2 6 <| .nil _ _) ?_
    refine then_normal ?_
    refine al_round ?_
    refine aw_p 111 (
      .a 1 6 <| .nil _ _) ?_
    refine aw_sq 222 223 ?_
    refine aw_tr 444 ?_
    refine aw_sk ?_
    refine then_normal ?_
    refine aw_sq 446 447 ?_
    refine aw_bl 1 893 ?_
    refine aw_p 1787 (
      .a 4 6 <| .nil _ _) ?_
    refine aw_p 3575 (
      .a 2 7 <|
      .p (does_callB (x := .func 130) (ars := #[.tmp 21, .tmp 22]) (ats := #[24, 3]) (g := 130) (vs := [.slice (some ⟨1, 0, none⟩) y.length 0, .int .i64 ((m : Nat) : Int)]) (m := 1) (r := 1) (firsts := #[]) (caps := #[]) (args0 := [.slice (some ⟨0, 0, none⟩) y.length 0, .int .i64 ((m : Nat) : Int)]) (pre0 := [(0, ⟨(y.flatMap ptc), 29, false, 2⟩)]) (post0 := [(1, ⟨[.int .i64 ((y.getD m (0, 0)).1), .int .i64 ((y.getD m (0, 0)).2)], 29, true, 2⟩)]) (pre := [(1, ⟨(y.flatMap ptc), 29, false, 2⟩)]) (post := [(7, ⟨[.int .i64 ((y.getD m (0, 0)).1), .int .i64 ((y.getD m (0, 0)).2)], 29, true, 2⟩)]) (v0 := .slice (some ⟨1, 0, none⟩) 1 0) (v := .slice (some ⟨7, 0, none⟩) 1 0) [1, 7] (by kernel_rfl) (by kernel_rfl) (by kernel_rfl) (by kernel_rfl) (outer_01 y m hm hzy hy1 hy2) (.cons (.slice _ _ _ _ _ (by decide)) (.cons (.flatB (by kernel_rfl)) .nil)) ⟨rfl, ⟨rfl, rfl, rfl, (.flats (flats_pair _))⟩, trivial⟩ (by kernel_rfl) (by kernel_rfl) (by kernel_rfl) ⟨rfl, ⟨rfl, rfl, rfl, (.flats (by kernel_rfl))⟩, trivial⟩ (.slice _ _ _ _ _ (by decide))) <|
      .a 2 8 <| .nil _ _) ?_
    refine aw_bl 2 7151 ?_
    refine aw_lp 14303 ?_
    refine al_round ?_
    refine aw_p 28607 (
      .a 1 8 <| .nil _ _) ?_
    refine aw_sq 57214 57215 ?_
    refine aw_tr 114428 ?_
    refine aw_sk ?_
    refine then_normal ?_
    refine aw_sq 114430 114431 ?_
    refine aw_bl 3 228861 ?_
    refine aw_p 457723 (
      .a 4 8 <| .nil _ _) ?_
    refine aw_p 915447 (
      .a 2 9 <| .p (does_e ((((x.getD k (0, 0)).1) == ((y.getD m (0, 0)).1)) && ((((x.getD k (0, 0)).2) == ((y.getD m (0, 0)).2)) && true)) (rfl)) <| .nil _ _) ?_
    refine aw_cd 1830894 1830895 ((((x.getD k (0, 0)).1) == ((y.getD m (0, 0)).1)) && ((((x.getD k (0, 0)).2) == ((y.getD m (0, 0)).2)) && true)) (fun h2 => ?_) (fun h2 => ?_)
    · refine aw_p 3661789 (
        .a 1 9 <| .nil _ _) ?_
      refine aw_rt ?_
      refine block_ret ?_
      refine then_ret ?_
      refine then_ret ?_
      refine block_ret ?_
      refine block_ret ?_
      refine then_ret ?_
      refine then_ret ?_
      refine block_ret ?_
      refine then_ret ?_
      exact en_ret [.bool true] (show (.bool true : Value) = (.bool (Sp.endsB x k y m)) from (congrArg Value.bool (show true = (Sp.endsB x k y m) from by (rw [Sp.endsB_of (Sp.outr_11 hx1 hx2) (Sp.outr_01 hy1 hy2)]; clear hx1 hx2 hk hm hy1 hy2; simp only [List.any_cons, List.any_nil, Sp.eqTo, *, Bool.or_false, Bool.false_or, Bool.or_true, Bool.true_or]))))
    · refine aw_sk ?_
      refine block_normal ?_
      refine then_normal ?_
      refine aw_p1 (
        .a 2 9 <| .nil _ _) ?_
      refine then_normal ?_
      refine al_round ?_
      refine aw_p 28607 (
        .a 1 9 <| .nil _ _) ?_
      refine aw_sq 57214 57215 ?_
      refine aw_fl 114429 ?_
      refine aw_ex 2 ?_
      refine then_exit ?_
      refine then_exit ?_
      refine block_exit ?_
      refine block_normal ?_
      refine then_normal ?_
      refine aw_p1 (
        .a 2 9 <| .nil _ _) ?_
      refine then_normal ?_
      refine al_round ?_
      refine aw_p 111 (
        .a 1 9 <| .nil _ _) ?_
      refine aw_sq 222 223 ?_
      refine aw_fl 445 ?_
      refine aw_ex 0 ?_
      refine then_exit ?_
      refine then_exit ?_
      refine block_exit ?_
      refine then_normal ?_
      refine aw_p 15 (
        .a 1 9 <| .nil _ _) ?_
      refine aw_rt ?_
      exact en_ret [.bool false] (show (.bool false : Value) = (.bool (Sp.endsB x k y m)) from (congrArg Value.bool (show false = (Sp.endsB x k y m) from by (rw [Sp.endsB_of (Sp.outr_11 hx1 hx2) (Sp.outr_01 hy1 hy2)]; clear hx1 hx2 hk hm hy1 hy2; simp only [List.any_cons, List.any_nil, Sp.eqTo, *, Bool.or_false, Bool.false_or, Bool.or_true, Bool.true_or]))))
theorem ends_1110 (x y : List (Int × Int)) (k m : Nat) (hk : 1 ≤ k ∧ k < x.length) (hm : 1 ≤ m ∧ m < y.length) (hzx : x.length ≤ 4611686018427387904) (hzy : y.length ≤ 4611686018427387904) (hx1 : k = 1) (hx2 : k + 1 = x.length) (hy1 : m = 1) (hy2 : m + 1 ≠ y.length) :
    AC Try.prog 104 2 ([.slice (some ⟨0, 0, none⟩) x.length 0, .int .i64 ((k : Nat) : Int), .slice (some ⟨1, 0, none⟩) y.length 0, .int .i64 ((m : Nat) : Int)]) [(0, ⟨(x.flatMap ptc), 29, false, 2⟩), (1, ⟨(y.flatMap ptc), 29, false, 2⟩)] (.bool (Sp.endsB x k y m)) [] := by
  refine ac_in Try.func104 (fun w0 W pin => ?_)
  refine aw_p 3 (
    .a 1 2 <| .nil _ _) ?_
  refine aw_sq 6 7 ?_
  refine aw_p 13 (
    .a 2 2 <|
    .p (does_callB (x := .func 130) (ars := #[.tmp 13, .tmp 14]) (ats := #[24, 3]) (g := 130) (vs := [.slice (some ⟨0, 0, none⟩) x.length 0, .int .i64 ((k : Nat) : Int)]) (m := 1) (r := 1) (firsts := #[]) (caps := #[]) (args0 := [.slice (some ⟨0, 0, none⟩) x.length 0, .int .i64 ((k : Nat) : Int)]) (pre0 := [(0, ⟨(x.flatMap ptc), 29, false, 2⟩)]) (post0 := [(1, ⟨[.int .i64 ((x.getD 0 (0, 0)).1), .int .i64 ((x.getD 0 (0, 0)).2), .int .i64 ((x.getD k (0, 0)).1), .int .i64 ((x.getD k (0, 0)).2)], 29, true, 2⟩)]) (pre := [(0, ⟨(x.flatMap ptc), 29, false, 2⟩)]) (post := [(2, ⟨[.int .i64 ((x.getD 0 (0, 0)).1), .int .i64 ((x.getD 0 (0, 0)).2), .int .i64 ((x.getD k (0, 0)).1), .int .i64 ((x.getD k (0, 0)).2)], 29, true, 2⟩)]) (v0 := .slice (some ⟨1, 0, none⟩) 2 0) (v := .slice (some ⟨2, 0, none⟩) 2 0) [0, 2] (by kernel_rfl) (by kernel_rfl) (by kernel_rfl) (by kernel_rfl) (outer_11 x k hk hzx hx1 hx2) (.cons (.slice _ _ _ _ _ (by decide)) (.cons (.flatB (by kernel_rfl)) .nil)) ⟨rfl, ⟨rfl, rfl, rfl, (.flats (flats_pair _))⟩, trivial⟩ (by kernel_rfl) (by kernel_rfl) (by kernel_rfl) ⟨rfl, ⟨rfl, rfl, rfl, (.flats (by kernel_rfl))⟩, trivial⟩ (.slice _ _ _ _ _ (by decide))) <|
    .a 2 3 <| .nil _ _) ?_
  refine aw_bl 0 27 ?_
  refine aw_lp 55 ?_
  refine al_round ?_
  refine aw_p 111 (
    .a 1 3 <| .nil _ _) ?_
  refine aw_sq 222 223 ?_
  refine aw_tr 444 ?_
  refine aw_sk ?_
  refine then_normal ?_
  refine aw_sq 446 447 ?_
  refine aw_bl 1 893 ?_
  refine aw_p 1787 (
    .a 4 3 <| .nil _ _) ?_
  refine aw_p 3575 (
    .a 2 4 <|
    .p (does_callB (x := .func 130) (ars := #[.tmp 21, .tmp 22]) (ats := #[24, 3]) (g := 130) (vs := [.slice (some ⟨1, 0, none⟩) y.length 0, .int .i64 ((m : Nat) : Int)]) (m := 1) (r := 1) (firsts := #[]) (caps := #[]) (args0 := [.slice (some ⟨0, 0, none⟩) y.length 0, .int .i64 ((m : Nat) : Int)]) (pre0 := [(0, ⟨(y.flatMap ptc), 29, false, 2⟩)]) (post0 := [(1, ⟨[.int .i64 ((y.getD 0 (0, 0)).1), .int .i64 ((y.getD 0 (0, 0)).2)], 29, true, 2⟩)]) (pre := [(1, ⟨(y.flatMap ptc), 29, false, 2⟩)]) (post := [(4, ⟨[.int .i64 ((y.getD 0 (0, 0)).1), .int .i64 ((y.getD 0 (0, 0)).2)], 29, true, 2⟩)]) (v0 := .slice (some ⟨1, 0, none⟩) 1 0) (v := .slice (some ⟨4, 0, none⟩) 1 0) [1, 4] (by kernel_rfl) (by kernel_rfl) (by kernel_rfl) (by kernel_rfl) (outer_10 y m hm hzy hy1 hy2) (.cons (.slice _ _ _ _ _ (by decide)) (.cons (.flatB (by kernel_rfl)) .nil)) ⟨rfl, ⟨rfl, rfl, rfl, (.flats (flats_pair _))⟩, trivial⟩ (by kernel_rfl) (by kernel_rfl) (by kernel_rfl) ⟨rfl, ⟨rfl, rfl, rfl, (.flats (by kernel_rfl))⟩, trivial⟩ (.slice _ _ _ _ _ (by decide))) <|
    .a 2 5 <| .nil _ _) ?_
  refine aw_bl 2 7151 ?_
  refine aw_lp 14303 ?_
  refine al_round ?_
  refine aw_p 28607 (
    .a 1 5 <| .nil _ _) ?_
  refine aw_sq 57214 57215 ?_
  refine aw_tr 114428 ?_
  refine aw_sk ?_
  refine then_normal ?_
  refine aw_sq 114430 114431 ?_
  refine aw_bl 3 228861 ?_
  refine aw_p 457723 (
    .a 4 5 <| .nil _ _) ?_
  refine aw_p 915447 (
    .a 2 6 <| .p (does_e ((((x.getD 0 (0, 0)).1) == ((y.getD 0 (0, 0)).1)) && ((((x.getD 0 (0, 0)).2) == ((y.getD 0 (0, 0)).2)) && true)) (rfl)) <| .nil _ _) ?_
  refine aw_cd 1830894 1830895 ((((x.getD 0 (0, 0)).1) == ((y.getD 0 (0, 0)).1)) && ((((x.getD 0 (0, 0)).2) == ((y.getD 0 (0, 0)).2)) && true)) (fun h1 => ?_) (fun h1 => ?_)
  · refine aw_p 3661789 (
      .a 1 6 <| .nil _ _) ?_
    refine aw_rt ?_
    refine block_ret ?_
    refine then_ret ?_
    refine then_ret ?_
    refine block_ret ?_
    refine block_ret ?_
    refine then_ret ?_
    refine then_ret ?_
    refine block_ret ?_
    refine then_ret ?_
    exact en_ret [.bool true] (show (.bool true : Value) = (.bool (Sp.endsB x k y m)) from (congrArg Value.bool (show true = (Sp.endsB x k y m) from by (rw [Sp.endsB_of (Sp.outr_11 hx1 hx2) (Sp.outr_10 hy1 hy2)]; clear hx1 hx2 hk hm hy1 hy2; simp only [List.any_cons, List.any_nil, Sp.eqTo, *, Bool.or_false, Bool.false_or, Bool.or_true, Bool.true_or]))))
  · refine aw_sk ?_
    refine block_normal ?_
    refine then_normal ?_
    refine aw_p1 (
      .a 2 6 <| .nil _ _) ?_
    refine then_normal ?_
    refine al_round ?_
    refine aw_p 28607 (
      .a 1 6 <| .nil _ _) ?_
    refine aw_sq 57214 57215 ?_
    refine aw_fl 114429 ?_
    refine aw_ex 2 ?_
    refine then_exit ?_
    refine then_exit ?_
    refine block_exit ?_
    refine block_normal ?_
    refine then_normal ?_
    refine aw_p1 (
      .a 2 6 <| .nil _ _) ?_
    refine then_normal ?_
    refine al_round ?_
    refine aw_p 111 (
      .a 1 6 <| .nil _ _) ?_
    refine aw_sq 222 223 ?_
    refine aw_tr 444 ?_
    refine aw_sk ?_
    refine then_normal ?_
    refine aw_sq 446 447 ?_
    refine aw_bl 1 893 ?_
    refine aw_p 1787 (
      .a 4 6 <| .nil _ _) ?_
    refine aw_p 3575 (
      .a 2 7 <|
      .p (does_callB (x := .func 130) (ars := #[.tmp 21, .tmp 22]) (ats := #[24, 3]) (g := 130) (vs := [.slice (some ⟨1, 0, none⟩) y.length 0, .int .i64 ((m : Nat) : Int)]) (m := 1) (r := 1) (firsts := #[]) (caps := #[]) (args0 := [.slice (some ⟨0, 0, none⟩) y.length 0, .int .i64 ((m : Nat) : Int)]) (pre0 := [(0, ⟨(y.flatMap ptc), 29, false, 2⟩)]) (post0 := [(1, ⟨[.int .i64 ((y.getD 0 (0, 0)).1), .int .i64 ((y.getD 0 (0, 0)).2)], 29, true, 2⟩)]) (pre := [(1, ⟨(y.flatMap ptc), 29, false, 2⟩)]) (post := [(7, ⟨[.int .i64 ((y.getD 0 (0, 0)).1), .int .i64 ((y.getD 0 (0, 0)).2)], 29, true, 2⟩)]) (v0 := .slice (some ⟨1, 0, none⟩) 1 0) (v := .slice (some ⟨7, 0, none⟩) 1 0) [1, 7] (by kernel_rfl) (by kernel_rfl) (by kernel_rfl) (by kernel_rfl) (outer_10 y m hm hzy hy1 hy2) (.cons (.slice _ _ _ _ _ (by decide)) (.cons (.flatB (by kernel_rfl)) .nil)) ⟨rfl, ⟨rfl, rfl, rfl, (.flats (flats_pair _))⟩, trivial⟩ (by kernel_rfl) (by kernel_rfl) (by kernel_rfl) ⟨rfl, ⟨rfl, rfl, rfl, (.flats (by kernel_rfl))⟩, trivial⟩ (.slice _ _ _ _ _ (by decide))) <|
      .a 2 8 <| .nil _ _) ?_
    refine aw_bl 2 7151 ?_
    refine aw_lp 14303 ?_
    refine al_round ?_
    refine aw_p 28607 (
      .a 1 8 <| .nil _ _) ?_
    refine aw_sq 57214 57215 ?_
    refine aw_tr 114428 ?_
    refine aw_sk ?_
    refine then_normal ?_
    refine aw_sq 114430 114431 ?_
    refine aw_bl 3 228861 ?_
    refine aw_p 457723 (
      .a 4 8 <| .nil _ _) ?_
    refine aw_p 915447 (
      .a 2 9 <| .p (does_e ((((x.getD k (0, 0)).1) == ((y.getD 0 (0, 0)).1)) && ((((x.getD k (0, 0)).2) == ((y.getD 0 (0, 0)).2)) && true)) (rfl)) <| .nil _ _) ?_
    refine aw_cd 1830894 1830895 ((((x.getD k (0, 0)).1) == ((y.getD 0 (0, 0)).1)) && ((((x.getD k (0, 0)).2) == ((y.getD 0 (0, 0)).2)) && true)) (fun h2 => ?_) (fun h2 => ?_)
    · refine aw_p 3661789 (
        .a 1 9 <| .nil _ _) ?_
      refine aw_rt ?_
      refine block_ret ?_
      refine then_ret ?_
      refine then_ret ?_
      refine block_ret ?_
      refine block_ret ?_
      refine then_ret ?_
      refine then_ret ?_
      refine block_ret ?_
      refine then_ret ?_
      exact en_ret [.bool true] (show (.bool true : Value) = (.bool (Sp.endsB x k y m)) from (congrArg Value.bool (show true = (Sp.endsB x k y m) from by (rw [Sp.endsB_of (Sp.outr_11 hx1 hx2) (Sp.outr_10 hy1 hy2)]; clear hx1 hx2 hk hm hy1 hy2; simp only [List.any_cons, List.any_nil, Sp.eqTo, *, Bool.or_false, Bool.false_or, Bool.or_true, Bool.true_or]))))
    · refine aw_sk ?_
      refine block_normal ?_
      refine then_normal ?_
      refine aw_p1 (
        .a 2 9 <| .nil _ _) ?_
      refine then_normal ?_
      refine al_round ?_
      refine aw_p 28607 (
        .a 1 9 <| .nil _ _) ?_
      refine aw_sq 57214 57215 ?_
      refine aw_fl 114429 ?_
      refine aw_ex 2 ?_
      refine then_exit ?_
      refine then_exit ?_
      refine block_exit ?_
      refine block_normal ?_
      refine then_normal ?_
      refine aw_p1 (
        .a 2 9 <| .nil _ _) ?_
      refine then_normal ?_
      refine al_round ?_
      refine aw_p 111 (
        .a 1 9 <| .nil _ _) ?_
      refine aw_sq 222 223 ?_
      refine aw_fl 445 ?_
      refine aw_ex 0 ?_
      refine then_exit ?_
      refine then_exit ?_
      refine block_exit ?_
      refine then_normal ?_
      refine aw_p 15 (
        .a 1 9 <| .nil _ _) ?_
      refine aw_rt ?_
      exact en_ret [.bool false] (show (.bool false : Value) = (.bool (Sp.endsB x k y m)) from (congrArg Value.bool (show false = (Sp.endsB x k y m) from by (rw [Sp.endsB_of (Sp.outr_11 hx1 hx2) (Sp.outr_10 hy1 hy2)]; clear hx1 hx2 hk hm hy1 hy2; simp only [List.any_cons, List.any_nil, Sp.eqTo, *, Bool.or_false, Bool.false_or, Bool.or_true, Bool.true_or]))))
theorem ends_1111 (x y : List (Int × Int)) (k m : Nat) (hk : 1 ≤ k ∧ k < x.length) (hm : 1 ≤ m ∧ m < y.length) (hzx : x.length ≤ 4611686018427387904) (hzy : y.length ≤ 4611686018427387904) (hx1 : k = 1) (hx2 : k + 1 = x.length) (hy1 : m = 1) (hy2 : m + 1 = y.length) :
    AC Try.prog 104 2 ([.slice (some ⟨0, 0, none⟩) x.length 0, .int .i64 ((k : Nat) : Int), .slice (some ⟨1, 0, none⟩) y.length 0, .int .i64 ((m : Nat) : Int)]) [(0, ⟨(x.flatMap ptc), 29, false, 2⟩), (1, ⟨(y.flatMap ptc), 29, false, 2⟩)] (.bool (Sp.endsB x k y m)) [] := by
  refine ac_in Try.func104 (fun w0 W pin => ?_)
  refine aw_p 3 (
    .a 1 2 <| .nil _ _) ?_
  refine aw_sq 6 7 ?_
  refine aw_p 13 (
    .a 2 2 <|
    .p (does_callB (x := .func 130) (ars := #[.tmp 13, .tmp 14]) (ats := #[24, 3]) (g := 130) (vs := [.slice (some ⟨0, 0, none⟩) x.length 0, .int .i64 ((k : Nat) : Int)]) (m := 1) (r := 1) (firsts := #[]) (caps := #[]) (args0 := [.slice (some ⟨0, 0, none⟩) x.length 0, .int .i64 ((k : Nat) : Int)]) (pre0 := [(0, ⟨(x.flatMap ptc), 29, false, 2⟩)]) (post0 := [(1, ⟨[.int .i64 ((x.getD 0 (0, 0)).1), .int .i64 ((x.getD 0 (0, 0)).2), .int .i64 ((x.getD k (0, 0)).1), .int .i64 ((x.getD k (0, 0)).2)], 29, true, 2⟩)]) (pre := [(0, ⟨(x.flatMap ptc), 29, false, 2⟩)]) (post := [(2, ⟨[.int .i64 ((x.getD 0 (0, 0)).1), .int .i64 ((x.getD 0 (0, 0)).2), .int .i64 ((x.getD k (0, 0)).1), .int .i64 ((x.getD k (0, 0)).2)], 29, true, 2⟩)]) (v0 := .slice (some ⟨1, 0, none⟩) 2 0) (v := .slice (some ⟨2, 0, none⟩) 2 0) [0, 2] (by kernel_rfl) (by kernel_rfl) (by kernel_rfl) (by kernel_rfl) (outer_11 x k hk hzx hx1 hx2) (.cons (.slice _ _ _ _ _ (by decide)) (.cons (.flatB (by kernel_rfl)) .nil)) ⟨rfl, ⟨rfl, rfl, rfl, (.flats (flats_pair _))⟩, trivial⟩ (by kernel_rfl) (by kernel_rfl) (by kernel_rfl) ⟨rfl, ⟨rfl, rfl, rfl, (.flats (by kernel_rfl))⟩, trivial⟩ (.slice _ _ _ _ _ (by decide))) <|
    .a 2 3 <| .nil _ _) ?_
  refine aw_bl 0 27 ?_
  refine aw_lp 55 ?_
  refine al_round ?_
  refine aw_p 111 (
    .a 1 3 <| .nil _ _) ?_
  refine aw_sq 222 223 ?_
  refine aw_tr 444 ?_
  refine aw_sk ?_
  refine then_normal ?_
  refine aw_sq 446 447 ?_
  refine aw_bl 1 893 ?_
  refine aw_p 1787 (
    .a 4 3 <| .nil _ _) ?_
  refine aw_p 3575 (
    .a 2 4 <|
    .p (does_callB (x := .func 130) (ars := #[.tmp 21, .tmp 22]) (ats := #[24, 3]) (g := 130) (vs := [.slice (some ⟨1, 0, none⟩) y.length 0, .int .i64 ((m : Nat) : Int)]) (m := 1) (r := 1) (firsts := #[]) (caps := #[]) (args0 := [.slice (some ⟨0, 0, none⟩) y.length 0, .int .i64 ((m : Nat) : Int)]) (pre0 := [(0, ⟨(y.flatMap ptc), 29, false, 2⟩)]) (post0 := [(1, ⟨[.int .i64 ((y.getD 0 (0, 0)).1), .int .i64 ((y.getD 0 (0, 0)).2), .int .i64 ((y.getD m (0, 0)).1), .int .i64 ((y.getD m (0, 0)).2)], 29, true, 2⟩)]) (pre := [(1, ⟨(y.flatMap ptc), 29, false, 2⟩)]) (post := [(4, ⟨[.int .i64 ((y.getD 0 (0, 0)).1), .int .i64 ((y.getD 0 (0, 0)).2), .int .i64 ((y.getD m (0, 0)).1), .int .i64 ((y.getD m (0, 0)).2)], 29, true, 2⟩)]) (v0 := .slice (some ⟨1, 0, none⟩) 2 0) (v := .slice (some ⟨4, 0, none⟩) 2 0) [1, 4] (by kernel_rfl) (by kernel_rfl) (by kernel_rfl) (by kernel_rfl) (outer_11 y m hm hzy hy1 hy2) (.cons (.slice _ _ _ _ _ (by decide)) (.cons (.flatB (by kernel_rfl)) .nil)) ⟨rfl, ⟨rfl, rfl, rfl, (.flats (flats_pair _))⟩, trivial⟩ (by kernel_rfl) (by kernel_rfl) (by kernel_rfl) ⟨rfl, ⟨rfl, rfl, rfl, (.flats (by kernel_rfl))⟩, trivial⟩ (.slice _ _ _ _ _ (by decide))) <|
    .a 2 5 <| .nil _ _) ?_
  refine aw_bl 2 7151 ?_
  refine aw_lp 14303 ?_
  refine al_round ?_
  refine aw_p 28607 (
    .a 1 5 <| .nil _ _) ?_
  refine aw_sq 57214 57215 ?_
  refine aw_tr 114428 ?_
  refine aw_sk ?_
  refine then_normal ?_
  refine aw_sq 114430 114431 ?_
  refine aw_bl 3 228861 ?_
  refine aw_p 457723 (
    .a 4 5 <| .nil _ _) ?_
  refine aw_p 915447 (
    .a 2 6 <| .p (does_e ((((x.getD 0 (0, 0)).1) == ((y.getD 0 (0, 0)).1)) && ((((x.getD 0 (0, 0)).2) == ((y.getD 0 (0, 0)).2)) && true)) (rfl)) <| .nil _ _) ?_
  refine aw_cd 1830894 1830895 ((((x.getD 0 (0, 0)).1) == ((y.getD 0 (0, 0)).1)) && ((((x.getD 0 (0, 0)).2) == ((y.getD 0 (0, 0)).2)) && true)) (fun h1 => ?_) (fun h1 => ?_)
  · refine aw_p 3661789 (
      .a 1 6 <| .nil _ _) ?_
    refine aw_rt ?_
    refine block_ret ?_
    refine then_ret ?_
    refine then_ret ?_
    refine block_ret ?_
    refine block_ret ?_
    refine then_ret ?_
    refine then_ret ?_
    refine block_ret ?_
    refine then_ret ?_
    exact en_ret [.bool true] (show (.bool true : Value) = (.bool (Sp.endsB x k y m)) from (congrArg Value.bool (show true = (Sp.endsB x k y m) from by (rw [Sp.endsB_of (Sp.outr_11 hx1 hx2) (Sp.outr_11 hy1 hy2)]; clear hx1 hx2 hk hm hy1 hy2; simp only [List.any_cons, List.any_nil, Sp.eqTo, *, Bool.or_false, Bool.false_or, Bool.or_true, Bool.true_or]))))
  · refine aw_sk ?_
    refine block_normal ?_
    refine then_normal ?_
    refine aw_p1 (
      .a 2 6 <| .nil _ _) ?_
    refine then_normal ?_
    refine al_round ?_
    refine aw_p 28607 (
      .a 1 6 <| .nil _ _) ?_
    refine aw_sq 57214 57215 ?_
    refine aw_tr 114428 ?_
    refine aw_sk ?_
    refine then_normal ?_
    refine aw_sq 114430 114431 ?_
    refine aw_bl 3 228861 ?_
    refine aw_p 457723 (
      .a 4 6 <| .nil _ _) ?_
    refine aw_p 915447 (
      .a 2 7 <| .p (does_e ((((x.getD 0 (0, 0)).1) == ((y.getD m (0, 0)).1)) && ((((x.getD 0 (0, 0)).2) == ((y.getD m (0, 0)).2)) && true)) (rfl)) <| .nil _ _) ?_
    refine aw_cd 1830894 1830895 ((((x.getD 0 (0, 0)).1) == ((y.getD m (0, 0)).1)) && ((((x.getD 0 (0, 0)).2) == ((y.getD m (0, 0)).2)) && true)) (fun h2 => ?_) (fun h2 => ?_)
    · refine aw_p 3661789 (
        .a 1 7 <| .nil _ _) ?_
      refine aw_rt ?_
      refine block_ret ?_
      refine then_ret ?_
      refine then_ret ?_
      refine block_ret ?_
      refine block_ret ?_
      refine then_ret ?_
      refine then_ret ?_
      refine block_ret ?_
      refine then_ret ?_
      exact en_ret [.bool true] (show (.bool true : Value) = (.bool (Sp.endsB x k y m)) from (congrArg Value.bool (show true = (Sp.endsB x k y m) from by (rw [Sp.endsB_of (Sp.outr_11 hx1 hx2) (Sp.outr_11 hy1 hy2)]; clear hx1 hx2 hk hm hy1 hy2; simp only [List.any_cons, List.any_nil, Sp.eqTo, *, Bool.or_false, Bool.false_or, Bool.or_true, Bool.true_or]))))
    · refine aw_sk ?_
      refine block_normal ?_
      refine then_normal ?_
      refine aw_p1 (
        .a 2 7 <| .nil _ _) ?_
      refine then_normal ?_
      refine al_round ?_
      refine aw_p 28607 (
        .a 1 7 <| .nil _ _) ?_
      refine aw_sq 57214 57215 ?_
      refine aw_fl 114429 ?_
      refine aw_ex 2 ?_
      refine then_exit ?_
      refine then_exit ?_
      refine block_exit ?_
      refine block_normal ?_
      refine then_normal ?_
      refine aw_p1 (
        .a 2 7 <| .nil _ _) ?_
      refine then_normal ?_
      refine al_round ?_
      refine aw_p 111 (
        .a 1 7 <| .nil _ _) ?_
      refine aw_sq 222 223 ?_
      refine aw_tr 444 ?_
      refine aw_sk ?_
      refine then_normal ?_
      refine aw_sq 446 447 ?_
      refine aw_bl 1 893 ?_
      refine aw_p 1787 (
        .a 4 7 <| .nil _ _) ?_
      refine aw_p 3575 (
        .a 2 8 <|
        .p (does_callB (x := .func 130) (ars := #[.tmp 21, .tmp 22]) (ats := #[24, 3]) (g := 130) (vs := [.slice (some ⟨1, 0, none⟩) y.length 0, .int .i64 ((m : Nat) : Int)]) (m := 1) (r := 1) (firsts := #[]) (caps := #[]) (args0 := [.slice (some ⟨0, 0, none⟩) y.length 0, .int .i64 ((m : Nat) : Int)]) (pre0 := [(0, ⟨(y.flatMap ptc), 29, false, 2⟩)]) (post0 := [(1, ⟨[.int .i64 ((y.getD 0 (0, 0)).1), .int .i64 ((y.getD 0 (0, 0)).2), .int .i64 ((y.getD m (0, 0)).1), .int .i64 ((y.getD m (0, 0)).2)], 29, true, 2⟩)]) (pre := [(1, ⟨(y.flatMap ptc), 29, false, 2⟩)]) (post := [(8, ⟨[.int .i64 ((y.getD 0 (0, 0)).1), .int .i64 ((y.getD 0 (0, 0)).2), .int .i64 ((y.getD m (0, 0)).1), .int .i64 ((y.getD m (0, 0)).2)], 29, true, 2⟩)]) (v0 := .slice (some ⟨1, 0, none⟩) 2 0) (v := .slice (some ⟨8, 0, none⟩) 2 0) [1, 8] (by kernel_rfl) (by kernel_rfl) (by kernel_rfl) (by kernel_rfl) (outer_11 y m hm hzy hy1 hy2) (.cons (.slice _ _ _ _ _ (by decide)) (.cons (.flatB (by kernel_rfl)) .nil)) ⟨rfl, ⟨rfl, rfl, rfl, (.flats (flats_pair _))⟩, trivial⟩ (by kernel_rfl) (by kernel_rfl) (by kernel_rfl) ⟨rfl, ⟨rfl, rfl, rfl, (.flats (by kernel_rfl))⟩, trivial⟩ (.slice _ _ _ _ _ (by decide))) <|
        .a 2 9 <| .nil _ _) ?_
      refine aw_bl 2 7151 ?_
      refine aw_lp 14303 ?_
      refine al_round ?_
      refine aw_p 28607 (
        .a 1 9 <| .nil _ _) ?_
      refine aw_sq 57214 57215 ?_
      refine aw_tr 114428 ?_
      refine aw_sk ?_
      refine then_normal ?_
      refine aw_sq 114430 114431 ?_
      refine aw_bl 3 228861 ?_
      refine aw_p 457723 (
        .a 4 9 <| .nil _ _) ?_
      refine aw_p 915447 (
        .a 2 10 <| .p (does_e ((((x.getD k (0, 0)).1) == ((y.getD 0 (0, 0)).1)) && ((((x.getD k (0, 0)).2) == ((y.getD 0 (0, 0)).2)) && true)) (rfl)) <| .nil _ _) ?_
      refine aw_cd 1830894 1830895 ((((x.getD k (0, 0)).1) == ((y.getD 0 (0, 0)).1)) && ((((x.getD k (0, 0)).2) == ((y.getD 0 (0, 0)).2)) && true)) (fun h3 => ?_) (fun h3 => ?_)
      · refine aw_p 3661789 (
          .a 1 10 <| .nil _ _) ?_
        refine aw_rt ?_
        refine block_ret ?_
        refine then_ret ?_
        refine then_ret ?_
        refine block_ret ?_
        refine block_ret ?_
        refine then_ret ?_
        refine then_ret ?_
        refine block_ret ?_
        refine then_ret ?_
        exact en_ret [.bool true] (show (.bool true : Value) = (.bool (Sp.endsB x k y m)) from (congrArg Value.bool (show true = (Sp.endsB x k y m) from by (rw [Sp.endsB_of (Sp.outr_11 hx1 hx2) (Sp.outr_11 hy1 hy2)]; clear hx1 hx2 hk hm hy1 hy2; simp only [List.any_cons, List.any_nil, Sp.eqTo, *, Bool.or_false, Bool.false_or, Bool.or_true, Bool.true_or]))))
      · refine aw_sk ?_
        refine block_normal ?_
        refine then_normal ?_
        refine aw_p1 (
          .a 2 10 <| .nil _ _) ?_
        refine then_normal ?_
        refine al_round ?_
        refine aw_p 28607 (
          .a 1 10 <| .nil _ _) ?_
        refine aw_sq 57214 57215 ?_
        refine aw_tr 114428 ?_
        refine aw_sk ?_
        refine then_normal ?_
        refine aw_sq 114430 114431 ?_
        refine aw_bl 3 228861 ?_
        refine aw_p 457723 (
          .a 4 10 <| .nil _ _) ?_
        refine aw_p 915447 (
          .a 2 11 <| .p (does_e ((((x.getD k (0, 0)).1) == ((y.getD m (0, 0)).1)) && ((((x.getD k (0, 0)).2) == ((y.getD m (0, 0)).2)) && true)) (rfl)) <| .nil _ _) ?_
        refine aw_cd 1830894 1830895 ((((x.getD k (0, 0)).1) == ((y.getD m (0, 0)).1)) && ((((x.getD k (0, 0)).2) == ((y.getD m (0, 0)).2)) && true)) (fun h4 => ?_) (fun h4 => ?_)
        · refine aw_p 3661789 (
            .a 1 11 <| .nil _ _) ?_
          refine aw_rt ?_
          refine block_ret ?_
          refine then_ret ?_
          refine then_ret ?_
          refine block_ret ?_
          refine block_ret ?_
          refine then_ret ?_
          refine then_ret ?_
          refine block_ret ?_
          refine then_ret ?_
          exact en_ret [.bool true] (show (.bool true : Value) = (.bool (Sp.endsB x k y m)) from (congrArg Value.bool (show true = (Sp.endsB x k y m) from by (rw [Sp.endsB_of (Sp.outr_11 hx1 hx2) (Sp.outr_11 hy1 hy2)]; clear hx1 hx2 hk hm hy1 hy2; simp only [List.any_cons, List.any_nil, Sp.eqTo, *, Bool.or_false, Bool.false_or, Bool.or_true, Bool.true_or]))))
        · refine aw_sk ?_
          refine block_normal ?_
          refine then_normal ?_
          refine aw_p1 (
            .a 2 11 <| .nil _ _) ?_
          refine then_normal ?_
          refine al_round ?_
          refine aw_p 28607 (
            .a 1 11 <| .nil _ _) ?_
          refine aw_sq 57214 57215 ?_
          refine aw_fl 114429 ?_
          refine aw_ex 2 ?_
          refine then_exit ?_
          refine then_exit ?_
          refine block_exit ?_
          refine block_normal ?_
          refine then_normal ?_
          refine aw_p1 (
            .a 2 11 <| .nil _ _) ?_
          refine then_normal ?_
          refine al_round ?_
          refine aw_p 111 (
            .a 1 11 <| .nil _ _) ?_
          refine aw_sq 222 223 ?_
          refine aw_fl 445 ?_
          refine aw_ex 0 ?_
          refine then_exit ?_
          refine then_exit ?_
          refine block_exit ?_
          refine then_normal ?_
          refine aw_p 15 (
            .a 1 11 <| .nil _ _) ?_
          refine aw_rt ?_
          exact en_ret [.bool false] (show (.bool false : Value) = (.bool (Sp.endsB x k y m)) from (congrArg Value.bool (show false = (Sp.endsB x k y m) from by (rw [Sp.endsB_of (Sp.outr_11 hx1 hx2) (Sp.outr_11 hy1 hy2)]; clear hx1 hx2 hk hm hy1 hy2; simp only [List.any_cons, List.any_nil, Sp.eqTo, *, Bool.or_false, Bool.false_or, Bool.or_true, Bool.true_or]))))
theorem ends_ok (x y : List (Int × Int)) (k m : Nat) (hk : 1 ≤ k ∧ k < x.length) (hm : 1 ≤ m ∧ m < y.length) (hzx : x.length ≤ 4611686018427387904) (hzy : y.length ≤ 4611686018427387904) : AC Try.prog 104 2 [.slice (some ⟨0, 0, none⟩) x.length 0, .int .i64 ((k : Nat) : Int), .slice (some ⟨1, 0, none⟩) y.length 0, .int .i64 ((m : Nat) : Int)] [(0, ⟨(x.flatMap ptc), 29, false, 2⟩), (1, ⟨(y.flatMap ptc), 29, false, 2⟩)] (.bool (Sp.endsB x k y m)) [] := by
  by_cases hx1 : k = 1 <;> by_cases hx2 : k + 1 = x.length
  · by_cases hy1 : m = 1 <;> by_cases hy2 : m + 1 = y.length
    · exact ends_1111 x y k m hk hm hzx hzy hx1 hx2 hy1 hy2
    · exact ends_1110 x y k m hk hm hzx hzy hx1 hx2 hy1 hy2
    · exact ends_1101 x y k m hk hm hzx hzy hx1 hx2 hy1 hy2
    · exact ends_1100 x y k m hk hm hzx hzy hx1 hx2 hy1 hy2
  · by_cases hy1 : m = 1 <;> by_cases hy2 : m + 1 = y.length
    · exact ends_1011 x y k m hk hm hzx hzy hx1 hx2 hy1 hy2
    · exact ends_1010 x y k m hk hm hzx hzy hx1 hx2 hy1 hy2
    · exact ends_1001 x y k m hk hm hzx hzy hx1 hx2 hy1 hy2
    · exact ends_1000 x y k m hk hm hzx hzy hx1 hx2 hy1 hy2
  · by_cases hy1 : m = 1 <;> by_cases hy2 : m + 1 = y.length
    · exact ends_0111 x y k m hk hm hzx hzy hx1 hx2 hy1 hy2
    · exact ends_0110 x y k m hk hm hzx hzy hx1 hx2 hy1 hy2
    · exact ends_0101 x y k m hk hm hzx hzy hx1 hx2 hy1 hy2
    · exact ends_0100 x y k m hk hm hzx hzy hx1 hx2 hy1 hy2
  · exact ends_0000 x y k m hk hm hzx hzy hx1 hx2
end Go.Proofs.Ytadifmimefmcnaa.Am

namespace Go.Proofs.Ytadifmimefmcnaa.Am
open Go Go.Proofs
set_option maxRecDepth 100000
set_option maxHeartbeats 4000000
set_option linter.unusedVariables false
set_option linter.unusedSimpArgs false
theorem shadd0S (px py qx qy rx ry : Int) (pxl : -1048576 ≤ px) (pxu : px ≤ 1048576) (pyl : -1048576 ≤ py) (pyu : py ≤ 1048576) (qxl : -1048576 ≤ qx) (qxu : qx ≤ 1048576) (qyl : -1048576 ≤ qy) (qyu : qy ≤ 1048576) (rxl : -1048576 ≤ rx) (rxu : rx ≤ 1048576) (ryl : -1048576 ≤ ry) (ryu : ry ≤ 1048576) (h : Sp.addb [] px py qx qy rx ry = false) :
    AC Try.prog 121 1 ([.agg #[.int .i64 px, .int .i64 py], .agg #[.int .i64 qx, .int .i64 qy], .agg #[.int .i64 rx, .int .i64 ry], .pointer (some ⟨0, 0, none⟩)]) [(0, ⟨[.slice none 0 0], 24, true, 1⟩)] (.tuple #[]) [(0, ⟨[.slice none 0 0], 24, true, 1⟩)] := by
  refine ac_in Try.func121 (fun w0 W pin => ?_)
  refine aw_p 3 (
    .a 3 1 <| .nil _ _) ?_
  refine aw_sq 6 7 ?_
  refine aw_p 13 (
    .a 3 4 <| .p (does_cb _ (on_in qx qy rx ry px py (by omega) (by omega) (by omega) (by omega) (by omega) (by omega) (by omega) (by omega) (by omega) (by omega) (by omega) (by omega)) false ((show (Sp.onb qx qy rx ry px py) = false from (by simpa [Sp.addb, Sp.has2] using h)))) <| .a 1 4 <| .nil _ _) ?_
  refine aw_tr 26 ?_
  refine aw_rt ?_
  refine then_ret ?_
  exact en_ret [] (by kernel_rfl)
theorem shadd0A (px py qx qy rx ry : Int) (pxl : -1048576 ≤ px) (pxu : px ≤ 1048576) (pyl : -1048576 ≤ py) (pyu : py ≤ 1048576) (qxl : -1048576 ≤ qx) (qxu : qx ≤ 1048576) (qyl : -1048576 ≤ qy) (qyu : qy ≤ 1048576) (rxl : -1048576 ≤ rx) (rxu : rx ≤ 1048576) (ryl : -1048576 ≤ ry) (ryu : ry ≤ 1048576) (h : Sp.addb [] px py qx qy rx ry = true) :
    AC Try.prog 121 1 ([.agg #[.int .i64 px, .int .i64 py], .agg #[.int .i64 qx, .int .i64 qy], .agg #[.int .i64 rx, .int .i64 ry], .pointer (some ⟨0, 0, none⟩)]) [(0, ⟨[.slice none 0 0], 24, true, 1⟩)] (.tuple #[]) [(0, ⟨[.slice (some ⟨1, 0, none⟩) 1 0], 24, true, 1⟩), (1, ⟨[.int .i64 px, .int .i64 py], 29, true, 2⟩)] := by
  refine ac_in Try.func121 (fun w0 W pin => ?_)
  refine aw_p 3 (
    .a 3 2 <| .nil _ _) ?_
  refine aw_sq 6 7 ?_
  refine aw_p 13 (
    .a 3 5 <| .p (does_cb _ (on_in qx qy rx ry px py (by omega) (by omega) (by omega) (by omega) (by omega) (by omega) (by omega) (by omega) (by omega) (by omega) (by omega) (by omega)) true ((Sp.addb_on h))) <| .a 1 5 <| .nil _ _) ?_
  refine aw_fl 27 ?_
  refine aw_sk ?_
  refine then_normal ?_
  refine aw_sq 14 15 ?_
  refine aw_p 29 (
    .a 3 5 <| .nil _ _) ?_
  refine aw_bl 0 59 ?_
  refine aw_lp 119 ?_
  refine al_round ?_
  refine aw_p 239 (
    .a 1 5 <| .nil _ _) ?_
  refine aw_sq 478 479 ?_
  refine aw_fl 957 ?_
  refine aw_ex 0 ?_
  refine then_exit ?_
  refine then_exit ?_
  refine block_exit ?_
  refine then_normal ?_
  refine aw_p1 (
    .a 3 5 <| .p (does_ap 1) <| .a 1 6 <| .nil _ _) ?_
  exact en_normal [] (by kernel_rfl)
theorem shadd1S (x1 y1 px py qx qy rx ry : Int) (pxl : -1048576 ≤ px) (pxu : px ≤ 1048576) (pyl : -1048576 ≤ py) (pyu : py ≤ 1048576) (qxl : -1048576 ≤ qx) (qxu : qx ≤ 1048576) (qyl : -1048576 ≤ qy) (qyu : qy ≤ 1048576) (rxl : -1048576 ≤ rx) (rxu : rx ≤ 1048576) (ryl : -1048576 ≤ ry) (ryu : ry ≤ 1048576) (h : Sp.addb [(x1, y1)] px py qx qy rx ry = false) :
    AC Try.prog 121 2 ([.agg #[.int .i64 px, .int .i64 py], .agg #[.int .i64 qx, .int .i64 qy], .agg #[.int .i64 rx, .int .i64 ry], .pointer (some ⟨0, 0, none⟩)]) [(0, ⟨[.slice (some ⟨1, 0, none⟩) 1 0], 24, true, 1⟩), (1, ⟨[.int .i64 x1, .int .i64 y1], 29, true, 2⟩)] (.tuple #[]) [(0, ⟨[.slice (some ⟨1, 0, none⟩) 1 0], 24, true, 1⟩), (1, ⟨[.int .i64 x1, .int .i64 y1], 29, true, 2⟩)] := by
  refine ac_in Try.func121 (fun w0 W pin => ?_)
  refine aw_p 3 (
    .a 3 2 <| .nil _ _) ?_
  refine aw_sq 6 7 ?_
  refine aw_p 13 (
    .a 3 5 <| .p (does_c (on_in qx qy rx ry px py (by omega) (by omega) (by omega) (by omega) (by omega) (by omega) (by omega) (by omega) (by omega) (by omega) (by omega) (by omega))) <| .a 1 5 <| .nil _ _) ?_
  refine aw_cd 26 27 (!(Sp.onb qx qy rx ry px py)) (fun h1 => ?_) (fun h1 => ?_)
  · refine aw_rt ?_
    refine then_ret ?_
    exact en_ret [] (by kernel_rfl)
  · refine aw_sk ?_
    refine then_normal ?_
    refine aw_sq 14 15 ?_
    refine aw_p 29 (
      .a 3 5 <| .nil _ _) ?_
    refine aw_bl 0 59 ?_
    refine aw_lp 119 ?_
    refine al_round ?_
    refine aw_p 239 (
      .a 1 5 <| .nil _ _) ?_
    refine aw_sq 478 479 ?_
    refine aw_tr 956 ?_
    refine aw_sk ?_
    refine then_normal ?_
    refine aw_sq 958 959 ?_
    refine aw_bl 1 1917 ?_
    refine aw_p 3835 (
      .a 4 5 <| .nil _ _) ?_
    refine aw_p 7671 (
      .a 2 6 <|
      .p (does_e true ((show ((x1 == px) && ((y1 == py) && true)) = true from (by have q := h; simp only [Sp.addb, Sp.has2, List.any_cons, List.any_nil, (show Sp.onb qx qy rx ry px py = true from (by simpa using h1)), Bool.or_false, Bool.false_or, Bool.true_and, Bool.not_eq_false'] at q; exact q)))) <| .nil _ _) ?_
    refine aw_tr 15342 ?_
    refine aw_rt ?_
    refine block_ret ?_
    refine then_ret ?_
    refine then_ret ?_
    refine block_ret ?_
    refine then_ret ?_
    exact en_ret [] (by kernel_rfl)
theorem shadd1A (x1 y1 px py qx qy rx ry : Int) (pxl : -1048576 ≤ px) (pxu : px ≤ 1048576) (pyl : -1048576 ≤ py) (pyu : py ≤ 1048576) (qxl : -1048576 ≤ qx) (qxu : qx ≤ 1048576) (qyl : -1048576 ≤ qy) (qyu : qy ≤ 1048576) (rxl : -1048576 ≤ rx) (rxu : rx ≤ 1048576) (ryl : -1048576 ≤ ry) (ryu : ry ≤ 1048576) (h : Sp.addb [(x1, y1)] px py qx qy rx ry = true) :
    AC Try.prog 121 2 ([.agg #[.int .i64 px, .int .i64 py], .agg #[.int .i64 qx, .int .i64 qy], .agg #[.int .i64 rx, .int .i64 ry], .pointer (some ⟨0, 0, none⟩)]) [(0, ⟨[.slice (some ⟨1, 0, none⟩) 1 0], 24, true, 1⟩), (1, ⟨[.int .i64 x1, .int .i64 y1], 29, true, 2⟩)] (.tuple #[]) [(0, ⟨[.slice (some ⟨2, 0, none⟩) 2 0], 24, true, 1⟩), (2, ⟨[.int .i64 x1, .int .i64 y1, .int .i64 px, .int .i64 py], 29, true, 2⟩)] := by
  refine ac_in Try.func121 (fun w0 W pin => ?_)
  refine aw_p 3 (
    .a 3 3 <| .nil _ _) ?_
  refine aw_sq 6 7 ?_
  refine aw_p 13 (
    .a 3 6 <| .p (does_cb _ (on_in qx qy rx ry px py (by omega) (by omega) (by omega) (by omega) (by omega) (by omega) (by omega) (by omega) (by omega) (by omega) (by omega) (by omega)) true ((Sp.addb_on h))) <| .a 1 6 <| .nil _ _) ?_
  refine aw_fl 27 ?_
  refine aw_sk ?_
  refine then_normal ?_
  refine aw_sq 14 15 ?_
  refine aw_p 29 (
    .a 3 6 <| .nil _ _) ?_
  refine aw_bl 0 59 ?_
  refine aw_lp 119 ?_
  refine al_round ?_
  refine aw_p 239 (
    .a 1 6 <| .nil _ _) ?_
  refine aw_sq 478 479 ?_
  refine aw_tr 956 ?_
  refine aw_sk ?_
  refine then_normal ?_
  refine aw_sq 958 959 ?_
  refine aw_bl 1 1917 ?_
  refine aw_p 3835 (
    .a 4 6 <| .nil _ _) ?_
  refine aw_p 7671 (
    .a 2 7 <| .p (does_e false ((show ((x1 == px) && ((y1 == py) && true)) = false from (Sp.has2_mem (l := [(x1, y1)]) (x := x1) (y := y1) (by simp) (Sp.addb_no h))))) <| .nil _ _) ?_
  refine aw_fl 15343 ?_
  refine aw_sk ?_
  refine block_normal ?_
  refine then_normal ?_
  refine aw_p1 (
    .a 2 7 <| .nil _ _) ?_
  refine then_normal ?_
  refine al_round ?_
  refine aw_p 239 (
    .a 1 7 <| .nil _ _) ?_
  refine aw_sq 478 479 ?_
  refine aw_fl 957 ?_
  refine aw_ex 0 ?_
  refine then_exit ?_
  refine then_exit ?_
  refine block_exit ?_
  refine then_normal ?_
  refine aw_p1 (
    .a 3 7 <| .p (does_ap 2) <| .a 1 8 <| .nil _ _) ?_
  exact en_normal [] (by kernel_rfl)
theorem shadd2S (x1 y1 x2 y2 px py qx qy rx ry : Int) (pxl : -1048576 ≤ px) (pxu : px ≤ 1048576) (pyl : -1048576 ≤ py) (pyu : py ≤ 1048576) (qxl : -1048576 ≤ qx) (qxu : qx ≤ 1048576) (qyl : -1048576 ≤ qy) (qyu : qy ≤ 1048576) (rxl : -1048576 ≤ rx) (rxu : rx ≤ 1048576) (ryl : -1048576 ≤ ry) (ryu : ry ≤ 1048576) (h : Sp.addb [(x1, y1), (x2, y2)] px py qx qy rx ry = false) :
    AC Try.prog 121 2 ([.agg #[.int .i64 px, .int .i64 py], .agg #[.int .i64 qx, .int .i64 qy], .agg #[.int .i64 rx, .int .i64 ry], .pointer (some ⟨0, 0, none⟩)]) [(0, ⟨[.slice (some ⟨1, 0, none⟩) 2 0], 24, true, 1⟩), (1, ⟨[.int .i64 x1, .int .i64 y1, .int .i64 x2, .int .i64 y2], 29, true, 2⟩)] (.tuple #[]) [(0, ⟨[.slice (some ⟨1, 0, none⟩) 2 0], 24, true, 1⟩), (1, ⟨[.int .i64 x1, .int .i64 y1, .int .i64 x2, .int .i64 y2], 29, true, 2⟩)] := by
  refine ac_in Try.func121 (fun w0 W pin => ?_)
  refine aw_p 3 (
    .a 3 2 <| .nil _ _) ?_
  refine aw_sq 6 7 ?_
  refine aw_p 13 (
    .a 3 5 <| .p (does_c (on_in qx qy rx ry px py (by omega) (by omega) (by omega) (by omega) (by omega) (by omega) (by omega) (by omega) (by omega) (by omega) (by omega) (by omega))) <| .a 1 5 <| .nil _ _) ?_
  refine aw_cd 26 27 (!(Sp.onb qx qy rx ry px py)) (fun h1 => ?_) (fun h1 => ?_)
  · refine aw_rt ?_
    refine then_ret ?_
    exact en_ret [] (by kernel_rfl)
  · refine aw_sk ?_
    refine then_normal ?_
    refine aw_sq 14 15 ?_
    refine aw_p 29 (
      .a 3 5 <| .nil _ _) ?_
    refine aw_bl 0 59 ?_
    refine aw_lp 119 ?_
    refine al_round ?_
    refine aw_p 239 (
      .a 1 5 <| .nil _ _) ?_
    refine aw_sq 478 479 ?_
    refine aw_tr 956 ?_
    refine aw_sk ?_
    refine then_normal ?_
    refine aw_sq 958 959 ?_
    refine aw_bl 1 1917 ?_
    refine aw_p 3835 (
      .a 4 5 <| .nil _ _) ?_
    refine aw_p 7671 (
      .a 2 6 <| .p (does_e ((x1 == px) && ((y1 == py) && true)) (rfl)) <| .nil _ _) ?_
    refine aw_cd 15342 15343 ((x1 == px) && ((y1 == py) && true)) (fun h2 => ?_) (fun h2 => ?_)
    · have h2p : ((x1 = px ∧ y1 = py)) := by first | (simpa using h2) | (have h2q := h2; simp at h2q; omega) | (have h2q := bx1 h2; simp at h2q; omega)
      refine aw_rt ?_
      refine block_ret ?_
      refine then_ret ?_
      refine then_ret ?_
      refine block_ret ?_
      refine then_ret ?_
      exact en_ret [] (by kernel_rfl)
    · have h2p : ¬ ((x1 = px ∧ y1 = py)) := by first | (simpa using h2) | (have h2q := h2; simp at h2q; omega) | (have h2q := bx2 h2; simp at h2q; omega)
      refine aw_sk ?_
      refine block_normal ?_
      refine then_normal ?_
      refine aw_p1 (
        .a 2 6 <| .nil _ _) ?_
      refine then_normal ?_
      refine al_round ?_
      refine aw_p 239 (
        .a 1 6 <| .nil _ _) ?_
      refine aw_sq 478 479 ?_
      refine aw_tr 956 ?_
      refine aw_sk ?_
      refine then_normal ?_
      refine aw_sq 958 959 ?_
      refine aw_bl 1 1917 ?_
      refine aw_p 3835 (
        .a 4 6 <| .nil _ _) ?_
      refine aw_p 7671 (
        .a 2 7 <|
        .p (does_e true ((show ((x2 == px) && ((y2 == py) && true)) = true from (by have q := h; simp only [Sp.addb, Sp.has2, List.any_cons, List.any_nil, (show Sp.onb qx qy rx ry px py = true from (by simpa using h1)), h2, Bool.or_false, Bool.false_or, Bool.true_and, Bool.not_eq_false'] at q; exact q)))) <| .nil _ _) ?_
      refine aw_tr 15342 ?_
      refine aw_rt ?_
      refine block_ret ?_
      refine then_ret ?_
      refine then_ret ?_
      refine block_ret ?_
      refine then_ret ?_
      exact en_ret [] (by kernel_rfl)
theorem shadd2A (x1 y1 x2 y2 px py qx qy rx ry : Int) (pxl : -1048576 ≤ px) (pxu : px ≤ 1048576) (pyl : -1048576 ≤ py) (pyu : py ≤ 1048576) (qxl : -1048576 ≤ qx) (qxu : qx ≤ 1048576) (qyl : -1048576 ≤ qy) (qyu : qy ≤ 1048576) (rxl : -1048576 ≤ rx) (rxu : rx ≤ 1048576) (ryl : -1048576 ≤ ry) (ryu : ry ≤ 1048576) (h : Sp.addb [(x1, y1), (x2, y2)] px py qx qy rx ry = true) :
    AC Try.prog 121 2 ([.agg #[.int .i64 px, .int .i64 py], .agg #[.int .i64 qx, .int .i64 qy], .agg #[.int .i64 rx, .int .i64 ry], .pointer (some ⟨0, 0, none⟩)]) [(0, ⟨[.slice (some ⟨1, 0, none⟩) 2 0], 24, true, 1⟩), (1, ⟨[.int .i64 x1, .int .i64 y1, .int .i64 x2, .int .i64 y2], 29, true, 2⟩)] (.tuple #[]) [(0, ⟨[.slice (some ⟨2, 0, none⟩) 3 0], 24, true, 1⟩), (2, ⟨[.int .i64 x1, .int .i64 y1, .int .i64 x2, .int .i64 y2, .int .i64 px, .int .i64 py], 29, true, 2⟩)] := by
  refine ac_in Try.func121 (fun w0 W pin => ?_)
  refine aw_p 3 (
    .a 3 3 <| .nil _ _) ?_
  refine aw_sq 6 7 ?_
  refine aw_p 13 (
    .a 3 6 <| .p (does_cb _ (on_in qx qy rx ry px py (by omega) (by omega) (by omega) (by omega) (by omega) (by omega) (by omega) (by omega) (by omega) (by omega) (by omega) (by omega)) true ((Sp.addb_on h))) <| .a 1 6 <| .nil _ _) ?_
  refine aw_fl 27 ?_
  refine aw_sk ?_
  refine then_normal ?_
  refine aw_sq 14 15 ?_
  refine aw_p 29 (
    .a 3 6 <| .nil _ _) ?_
  refine aw_bl 0 59 ?_
  refine aw_lp 119 ?_
  refine al_round ?_
  refine aw_p 239 (
    .a 1 6 <| .nil _ _) ?_
  refine aw_sq 478 479 ?_
  refine aw_tr 956 ?_
  refine aw_sk ?_
  refine then_normal ?_
  refine aw_sq 958 959 ?_
  refine aw_bl 1 1917 ?_
  refine aw_p 3835 (
    .a 4 6 <| .nil _ _) ?_
  refine aw_p 7671 (
    .a 2 7 <| .p (does_e false ((show ((x1 == px) && ((y1 == py) && true)) = false from (Sp.has2_mem (l := [(x1, y1), (x2, y2)]) (x := x1) (y := y1) (by simp) (Sp.addb_no h))))) <| .nil _ _) ?_
  refine aw_fl 15343 ?_
  refine aw_sk ?_
  refine block_normal ?_
  refine then_normal ?_
  refine aw_p1 (
    .a 2 7 <| .nil _ _) ?_
  refine then_normal ?_
  refine al_round ?_
  refine aw_p 239 (
    .a 1 7 <| .nil _ _) ?_
  refine aw_sq 478 479 ?_
  refine aw_tr 956 ?_
  refine aw_sk ?_
  refine then_normal ?_
  refine aw_sq 958 959 ?_
  refine aw_bl 1 1917 ?_
  refine aw_p 3835 (
    .a 4 7 <| .nil _ _) ?_
  refine aw_p 7671 (
    .a 2 8 <| .p (does_e false ((show ((x2 == px) && ((y2 == py) && true)) = false from (Sp.has2_mem (l := [(x1, y1), (x2, y2)]) (x := x2) (y := y2) (by simp) (Sp.addb_no h))))) <| .nil _ _) ?_
  refine aw_fl 15343 ?_
  refine aw_sk ?_
  refine block_normal ?_
  refine then_normal ?_
  refine aw_p1 (
    .a 2 8 <| .nil _ _) ?_
  refine then_normal ?_
  refine al_round ?_
  refine aw_p 239 (
    .a 1 8 <| .nil _ _) ?_
  refine aw_sq 478 479 ?_
  refine aw_fl 957 ?_
  refine aw_ex 0 ?_
  refine then_exit ?_
  refine then_exit ?_
  refine block_exit ?_
  refine then_normal ?_
  refine aw_p1 (
    .a 3 8 <| .p (does_ap 2) <| .a 1 9 <| .nil _ _) ?_
  exact en_normal [] (by kernel_rfl)
theorem shadd3S (x1 y1 x2 y2 x3 y3 px py qx qy rx ry : Int) (pxl : -1048576 ≤ px) (pxu : px ≤ 1048576) (pyl : -1048576 ≤ py) (pyu : py ≤ 1048576) (qxl : -1048576 ≤ qx) (qxu : qx ≤ 1048576) (qyl : -1048576 ≤ qy) (qyu : qy ≤ 1048576) (rxl : -1048576 ≤ rx) (rxu : rx ≤ 1048576) (ryl : -1048576 ≤ ry) (ryu : ry ≤ 1048576) (h : Sp.addb [(x1, y1), (x2, y2), (x3, y3)] px py qx qy rx ry = false) :
    AC Try.prog 121 2 ([.agg #[.int .i64 px, .int .i64 py], .agg #[.int .i64 qx, .int .i64 qy], .agg #[.int .i64 rx, .int .i64 ry], .pointer (some ⟨0, 0, none⟩)]) [(0, ⟨[.slice (some ⟨1, 0, none⟩) 3 0], 24, true, 1⟩), (1, ⟨[.int .i64 x1, .int .i64 y1, .int .i64 x2, .int .i64 y2, .int .i64 x3, .int .i64 y3], 29, true, 2⟩)] (.tuple #[]) [(0, ⟨[.slice (some ⟨1, 0, none⟩) 3 0], 24, true, 1⟩), (1, ⟨[.int .i64 x1, .int .i64 y1, .int .i64 x2, .int .i64 y2, .int .i64 x3, .int .i64 y3], 29, true, 2⟩)] := by
  refine ac_in Try.func121 (fun w0 W pin => ?_)
  refine aw_p 3 (
    .a 3 2 <| .nil _ _) ?_
  refine aw_sq 6 7 ?_
  refine aw_p 13 (
    .a 3 5 <| .p (does_c (on_in qx qy rx ry px py (by omega) (by omega) (by omega) (by omega) (by omega) (by omega) (by omega) (by omega) (by omega) (by omega) (by omega) (by omega))) <| .a 1 5 <| .nil _ _) ?_
  refine aw_cd 26 27 (!(Sp.onb qx qy rx ry px py)) (fun h1 => ?_) (fun h1 => ?_)
  · refine aw_rt ?_
    refine then_ret ?_
    exact en_ret [] (by kernel_rfl)
  · refine aw_sk ?_
    refine then_normal ?_
    refine aw_sq 14 15 ?_
    refine aw_p 29 (
      .a 3 5 <| .nil _ _) ?_
    refine aw_bl 0 59 ?_
    refine aw_lp 119 ?_
    refine al_round ?_
    refine aw_p 239 (
      .a 1 5 <| .nil _ _) ?_
    refine aw_sq 478 479 ?_
    refine aw_tr 956 ?_
    refine aw_sk ?_
    refine then_normal ?_
    refine aw_sq 958 959 ?_
    refine aw_bl 1 1917 ?_
    refine aw_p 3835 (
      .a 4 5 <| .nil _ _) ?_
    refine aw_p 7671 (
      .a 2 6 <| .p (does_e ((x1 == px) && ((y1 == py) && true)) (rfl)) <| .nil _ _) ?_
    refine aw_cd 15342 15343 ((x1 == px) && ((y1 == py) && true)) (fun h2 => ?_) (fun h2 => ?_)
    · have h2p : ((x1 = px ∧ y1 = py)) := by first | (simpa using h2) | (have h2q := h2; simp at h2q; omega) | (have h2q := bx1 h2; simp at h2q; omega)
      refine aw_rt ?_
      refine block_ret ?_
      refine then_ret ?_
      refine then_ret ?_
      refine block_ret ?_
      refine then_ret ?_
      exact en_ret [] (by kernel_rfl)
    · have h2p : ¬ ((x1 = px ∧ y1 = py)) := by first | (simpa using h2) | (have h2q := h2; simp at h2q; omega) | (have h2q := bx2 h2; simp at h2q; omega)
      refine aw_sk ?_
      refine block_normal ?_
      refine then_normal ?_
      refine aw_p1 (
        .a 2 6 <| .nil _ _) ?_
      refine then_normal ?_
      refine al_round ?_
      refine aw_p 239 (
        .a 1 6 <| .nil _ _) ?_
      refine aw_sq 478 479 ?_
      refine aw_tr 956 ?_
      refine aw_sk ?_
      refine then_normal ?_
      refine aw_sq 958 959 ?_
      refine aw_bl 1 1917 ?_
      refine aw_p 3835 (
        .a 4 6 <| .nil _ _) ?_
      refine aw_p 7671 (
        .a 2 7 <| .p (does_e ((x2 == px) && ((y2 == py) && true)) (rfl)) <| .nil _ _) ?_
      refine aw_cd 15342 15343 ((x2 == px) && ((y2 == py) && true)) (fun h3 => ?_) (fun h3 => ?_)
      · have h3p : ((x2 = px ∧ y2 = py)) := by first | (simpa using h3) | (have h3q := h3; simp at h3q; omega) | (have h3q := bx1 h3; simp at h3q; omega)
        refine aw_rt ?_
        refine block_ret ?_
        refine then_ret ?_
        refine then_ret ?_
        refine block_ret ?_
        refine then_ret ?_
        exact en_ret [] (by kernel_rfl)
      · have h3p : ¬ ((x2 = px ∧ y2 = py)) := by first | (simpa using h3) | (have h3q := h3; simp at h3q; omega) | (have h3q := bx2 h3; simp at h3q; omega)
        refine aw_sk ?_
        refine block_normal ?_
        refine then_normal ?_
        refine aw_p1 (
          .a 2 7 <| .nil _ _) ?_
        refine then_normal ?_
        refine al_round ?_
        refine aw_p 239 (
          .a 1 7 <| .nil _ _) ?_
        refine aw_sq 478 479 ?_
        refine aw_tr 956 ?_
        refine aw_sk ?_
        refine then_normal ?_
        refine aw_sq 958 959 ?_
        refine aw_bl 1 1917 ?_
        refine aw_p 3835 (
          .a 4 7 <| .nil _ _) ?_
        refine aw_p 7671 (
          .a 2 8 <|
          .p (does_e true ((show ((x3 == px) && ((y3 == py) && true)) = true from (by have q := h; simp only [Sp.addb, Sp.has2, List.any_cons, List.any_nil, (show Sp.onb qx qy rx ry px py = true from (by simpa using h1)), h2, h3, Bool.or_false, Bool.false_or, Bool.true_and, Bool.not_eq_false'] at q; exact q)))) <| .nil _ _) ?_
        refine aw_tr 15342 ?_
        refine aw_rt ?_
        refine block_ret ?_
        refine then_ret ?_
        refine then_ret ?_
        refine block_ret ?_
        refine then_ret ?_
        exact en_ret [] (by kernel_rfl)
theorem shadd3A (x1 y1 x2 y2 x3 y3 px py qx qy rx ry : Int) (pxl : -1048576 ≤ px) (pxu : px ≤ 1048576) (pyl : -1048576 ≤ py) (pyu : py ≤ 1048576) (qxl : -1048576 ≤ qx) (qxu : qx ≤ 1048576) (qyl : -1048576 ≤ qy) (qyu : qy ≤ 1048576) (rxl : -1048576 ≤ rx) (rxu : rx ≤ 1048576) (ryl : -1048576 ≤ ry) (ryu : ry ≤ 1048576) (h : Sp.addb [(x1, y1), (x2, y2), (x3, y3)] px py qx qy rx ry = true) :
    AC Try.prog 121 2 ([.agg #[.int .i64 px, .int .i64 py], .agg #[.int .i64 qx, .int .i64 qy], .agg #[.int .i64 rx, .int .i64 ry], .pointer (some ⟨0, 0, none⟩)]) [(0, ⟨[.slice (some ⟨1, 0, none⟩) 3 0], 24, true, 1⟩), (1, ⟨[.int .i64 x1, .int .i64 y1, .int .i64 x2, .int .i64 y2, .int .i64 x3, .int .i64 y3], 29, true, 2⟩)] (.tuple #[]) [(0, ⟨[.slice (some ⟨2, 0, none⟩) 4 0], 24, true, 1⟩), (2, ⟨[.int .i64 x1, .int .i64 y1, .int .i64 x2, .int .i64 y2, .int .i64 x3, .int .i64 y3, .int .i64 px, .int .i64 py], 29, true, 2⟩)] := by
  refine ac_in Try.func121 (fun w0 W pin => ?_)
  refine aw_p 3 (
    .a 3 3 <| .nil _ _) ?_
  refine aw_sq 6 7 ?_
  refine aw_p 13 (
    .a 3 6 <| .p (does_cb _ (on_in qx qy rx ry px py (by omega) (by omega) (by omega) (by omega) (by omega) (by omega) (by omega) (by omega) (by omega) (by omega) (by omega) (by omega)) true ((Sp.addb_on h))) <| .a 1 6 <| .nil _ _) ?_
  refine aw_fl 27 ?_
  refine aw_sk ?_
  refine then_normal ?_
  refine aw_sq 14 15 ?_
  refine aw_p 29 (
    .a 3 6 <| .nil _ _) ?_
  refine aw_bl 0 59 ?_
  refine aw_lp 119 ?_
  refine al_round ?_
  refine aw_p 239 (
    .a 1 6 <| .nil _ _) ?_
  refine aw_sq 478 479 ?_
  refine aw_tr 956 ?_
  refine aw_sk ?_
  refine then_normal ?_
  refine aw_sq 958 959 ?_
  refine aw_bl 1 1917 ?_
  refine aw_p 3835 (
    .a 4 6 <| .nil _ _) ?_
  refine aw_p 7671 (
    .a 2 7 <| .p (does_e false ((show ((x1 == px) && ((y1 == py) && true)) = false from (Sp.has2_mem (l := [(x1, y1), (x2, y2), (x3, y3)]) (x := x1) (y := y1) (by simp) (Sp.addb_no h))))) <| .nil _ _) ?_
  refine aw_fl 15343 ?_
  refine aw_sk ?_
  refine block_normal ?_
  refine then_normal ?_
  refine aw_p1 (
    .a 2 7 <| .nil _ _) ?_
  refine then_normal ?_
  refine al_round ?_
  refine aw_p 239 (
    .a 1 7 <| .nil _ _) ?_
  refine aw_sq 478 479 ?_
  refine aw_tr 956 ?_
  refine aw_sk ?_
  refine then_normal ?_
  refine aw_sq 958 959 ?_
  refine aw_bl 1 1917 ?_
  refine aw_p 3835 (
    .a 4 7 <| .nil _ _) ?_
  refine aw_p 7671 (
    .a 2 8 <| .p (does_e false ((show ((x2 == px) && ((y2 == py) && true)) = false from (Sp.has2_mem (l := [(x1, y1), (x2, y2), (x3, y3)]) (x := x2) (y := y2) (by simp) (Sp.addb_no h))))) <| .nil _ _) ?_
  refine aw_fl 15343 ?_
  refine aw_sk ?_
  refine block_normal ?_
  refine then_normal ?_
  refine aw_p1 (
    .a 2 8 <| .nil _ _) ?_
  refine then_normal ?_
  refine al_round ?_
  refine aw_p 239 (
    .a 1 8 <| .nil _ _) ?_
  refine aw_sq 478 479 ?_
  refine aw_tr 956 ?_
  refine aw_sk ?_
  refine then_normal ?_
  refine aw_sq 958 959 ?_
  refine aw_bl 1 1917 ?_
  refine aw_p 3835 (
    .a 4 8 <| .nil _ _) ?_
  refine aw_p 7671 (
    .a 2 9 <| .p (does_e false ((show ((x3 == px) && ((y3 == py) && true)) = false from (Sp.has2_mem (l := [(x1, y1), (x2, y2), (x3, y3)]) (x := x3) (y := y3) (by simp) (Sp.addb_no h))))) <| .nil _ _) ?_
  refine aw_fl 15343 ?_
  refine aw_sk ?_
  refine block_normal ?_
  refine then_normal ?_
  refine aw_p1 (
    .a 2 9 <| .nil _ _) ?_
  refine then_normal ?_
  refine al_round ?_
  refine aw_p 239 (
    .a 1 9 <| .nil _ _) ?_
  refine aw_sq 478 479 ?_
  refine aw_fl 957 ?_
  refine aw_ex 0 ?_
  refine then_exit ?_
  refine then_exit ?_
  refine block_exit ?_
  refine then_normal ?_
  refine aw_p1 (
    .a 3 9 <| .p (does_ap 2) <| .a 1 10 <| .nil _ _) ?_
  exact en_normal [] (by kernel_rfl)
end Go.Proofs.Ytadifmimefmcnaa.Am
